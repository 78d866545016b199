import PyProof.Rows.All
import Wide.All
import OpenK.AllK
import Wide.FinOn
import HandS.ForMost
import HandS.DictComp
import HandS.CallLocal
import HandS.TupAny
import HandS.Conv
import HandS.Defaults
import HandS.RaiseMore
import HandS.IsInst
import HandS.WrittenGet
import HandS.SortOrd
import HandS.Sort
import HandS.ListItems
import HandS.Flow
import HandS.Wide
import PyProof.CollectIter
import PyProof.WalksMore
import HandS.SortRule
import HandS.DictTup
import PyProof.TupleOfSeq
import KE.KSortTupAny
import KE.KDictPairs
import HandS.TryOnly
import KE.KStateDown
import Lean
import HandS.Head0
import HandS.Head1
import HandS.Head2
import HandS.HeadEnd
import HandS.HeadHook1
import HandS.HeadHook2
import HandS.HeadHook3
import HandS.HeadHook4
import PySem.Challenge.RW_cellpacts_k70_whole_fair_gets_quiet
set_option linter.all false
/-! The plain law: a machine of hands, cells, tickets; a potential that falls with each deed but waits and rests. -/
namespace K70
abbrev RL := List (Nat × Int)
inductive Res where
  | reads (c : Nat)
  | ended (ws : RL)
  | dropped
  | retries
inductive Row where
  | new (k : Nat) (tk : Option Int)
  | walks (k : Nat) (t r : Int) (rs : RL)
  | locks (k : Nat) (t r : Int) (rs ws : RL) (d : Nat)
  | checks (k : Nat) (t r w : Int) (rs ws : RL) (d : Nat)
  | backs (k : Nat) (t r w : Int) (rs ws : RL) (d : Nat)
  | sleeps (k : Nat) (t r : Int) (rs : RL)
  | through (k : Nat)
structure Cell where
  num : Int
  stamp : Int
  holder : Option Nat
structure S where
  clock : Int
  tickets : Int
  cells : Nat → Cell
  rows : Nat → Row
structure P where
  H : Nat
  m : Nat
  n : Nat → Nat
  g : Nat → Nat → RL → Res
def upd {α : Type} (f : Nat → α) (i : Nat) (x : α) : Nat → α := fun j => if j = i then x else f j
theorem upd_same {α : Type} {f : Nat → α} {i : Nat} {x : α} : upd f i x i = x := by simp [upd]
theorem upd_ne {α : Type} {f : Nat → α} {i j : Nat} {x : α} (h : j ≠ i) : upd f i x j = f j := by simp [upd, h]
namespace Row
def k : Row → Nat
  | new k _ => k | walks k _ _ _ => k | locks k _ _ _ _ _ => k | checks k _ _ _ _ _ _ => k | backs k _ _ _ _ _ _ => k | sleeps k _ _ _ => k | through k => k
def tk : Row → Option Int
  | new _ t => t | walks _ t _ _ => some t | locks _ t _ _ _ _ => some t | checks _ t _ _ _ _ _ => some t | backs _ t _ _ _ _ _ => some t | sleeps _ t _ _ => some t | through _ => none
def rv : Row → Option Int
  | new _ _ => none | walks _ _ r _ => some r | locks _ _ r _ _ _ => some r | checks _ _ r _ _ _ _ => some r | backs _ _ r _ _ _ _ => some r | sleeps _ _ r _ => some r | through _ => none
def sv : Row → Option Int
  | walks _ _ r _ => some r | locks _ _ r _ _ _ => some r | checks _ _ r _ _ _ _ => some r | sleeps _ _ r _ => some r | _ => none
def wv : Row → Option Int
  | checks _ _ _ w _ _ _ => some w | backs _ _ _ w _ _ _ => some w | _ => none
def sure : Row → Option Int
  | backs _ _ _ w _ _ _ => some w | _ => none
def rs : Row → RL
  | walks _ _ _ rs => rs | locks _ _ _ rs _ _ => rs | checks _ _ _ _ rs _ _ => rs | backs _ _ _ _ rs _ _ => rs | sleeps _ _ _ rs => rs | _ => []
def held : Row → List Nat
  | locks _ _ _ _ ws d => (ws.take d).map (·.1)
  | checks _ _ _ _ _ ws _ => ws.map (·.1)
  | backs _ _ _ _ _ ws d => (ws.drop d).map (·.1)
  | _ => []
end Row
def rowNew (n k : Nat) (tk : Option Int) : Row := if k = n then .through k else .new k tk
def free (h : Nat) (c : Cell) : Cell := if c.holder = some h then { c with holder := none } else c
def giveUp (p : P) (s : S) (h : Nat) : S :=
  { s with cells := fun c => free h (s.cells c), rows := upd s.rows h (rowNew (p.n h) (s.rows h).k (s.rows h).tk) }
def doneWith (p : P) (s : S) (h : Nat) : S :=
  { s with rows := upd s.rows h (rowNew (p.n h) ((s.rows h).k + 1) none) }
/-- put into the reads, by the cells -/
def ins (q : Nat × Int) : RL → RL
  | [] => [q]
  | x :: r => if x.1 < q.1 then x :: ins q r else q :: x :: r
def lockNext (s : S) (h k : Nat) (t r : Int) (rs ws : RL) (d : Nat) : S × Bool :=
  match ws[d]? with
  | none => (s, false)
  | some q =>
    if (s.cells q.1).holder.isSome then (s, false)
    else ({ s with cells := upd s.cells q.1 { (s.cells q.1) with holder := some h }, rows := upd s.rows h (.locks k t r rs ws (d + 1)) }, true)
def isLate (s : S) (r : Int) (q : Nat × Int) : Bool := decide ((s.cells q.1).stamp > r)
def adv (s : S) (h k : Nat) (t r w : Int) (rs ws : RL) (d : Nat) : S :=
  { s with rows := upd s.rows h (if d + 1 = rs.length then .backs k t r w rs ws 0 else .checks k t r w rs ws (d + 1)) }
def tkLt : Option Int → Int → Bool
  | some a, t => decide (a < t)
  | none, _ => false
def wakes (c : Nat) : Row → Bool
  | .sleeps _ _ _ rs => decide (c ∈ rs.map (·.1))
  | _ => false
def step (p : P) (s : S) (h : Nat) : S × Bool :=
  match s.rows h with
  | .through _ => (s, false)
  | .sleeps _ _ _ _ => (s, false)
  | .new k tk =>
    ({ s with tickets := if tk = none then s.tickets + 1 else s.tickets, rows := upd s.rows h (.walks k (tk.getD s.tickets) s.clock []) }, true)
  | .walks k t r rs =>
    match p.g h k rs with
    | .reads c =>
      if (s.cells c).holder.isSome then (s, false)
      else if (s.cells c).stamp > r then (giveUp p s h, true)
      else ({ s with rows := upd s.rows h (.walks k t r (ins (c, (s.cells c).num) rs)) }, true)
    | .retries => if rs.any (isLate s r) then (giveUp p s h, true) else ({ s with rows := upd s.rows h (.sleeps k t r rs) }, true)
    | .dropped => (doneWith p s h, true)
    | .ended ws => if ws = [] then (doneWith p s h, true) else lockNext s h k t r rs ws 0
  | .locks k t r rs ws d =>
    if d < ws.length then lockNext s h k t r rs ws d
    else ({ s with clock := s.clock + 1, rows := upd s.rows h (if rs = [] then .backs k t r (s.clock + 1) rs ws 0 else .checks k t r (s.clock + 1) rs ws 0) }, true)
  | .checks k t r w rs ws d =>
    match rs[d]? with
    | none => (s, false)
    | some q =>
      if (s.cells q.1).stamp > r then (giveUp p s h, true)
      else match (s.cells q.1).holder with
        | none => (adv s h k t r w rs ws d, true)
        | some o =>
          if o = h then (adv s h k t r w rs ws d, true)
          else if (s.rows o).sure.isSome || tkLt (s.rows o).tk t then (giveUp p s h, true)
          else (adv (giveUp p s o) h k t r w rs ws d, true)
  | .backs k t r w rs ws d =>
    match ws[d]? with
    | none => (s, false)
    | some q =>
      ({ s with cells := upd s.cells q.1 ⟨q.2, w, none⟩,
                rows := fun i => if i = h then (if d + 1 = ws.length then rowNew (p.n h) (k + 1) none else .backs k t r w rs ws (d + 1))
                  else if wakes q.1 (s.rows i) then rowNew (p.n i) (s.rows i).k (s.rows i).tk else s.rows i }, true)
/-! ### what holds -/
def Srt (l : RL) : Prop := l.Pairwise (fun a b => a.1 < b.1)
structure LOk (m : Nat) (l : RL) : Prop where
  srt : Srt l
  lt : ∀ q ∈ l, q.1 < m
structure POk (p : P) : Prop where
  rd : ∀ h k rs c, p.g h k rs = .reads c → c < p.m ∧ c ∉ rs.map (·.1)
  en : ∀ h k rs ws, p.g h k rs = .ended ws → LOk p.m ws
def RowOk (p : P) (h : Nat) : Row → Prop
  | .new k _ => k < p.n h
  | .walks k _ _ _ => k < p.n h
  | .locks k _ _ rs ws d => k < p.n h ∧ p.g h k rs = .ended ws ∧ d ≤ ws.length ∧ 0 < ws.length
  | .checks k _ _ _ rs ws d => k < p.n h ∧ p.g h k rs = .ended ws ∧ d < rs.length ∧ 0 < ws.length
  | .backs k _ _ _ rs ws d => k < p.n h ∧ p.g h k rs = .ended ws ∧ d < ws.length
  | .sleeps k _ _ _ => k < p.n h
  | .through k => k = p.n h
structure Inv (p : P) (s : S) : Prop where
  tkLt : ∀ h, h < p.H → ∀ t, (s.rows h).tk = some t → t < s.tickets
  tkInj : ∀ h i, h < p.H → i < p.H → ∀ t, (s.rows h).tk = some t → (s.rows i).tk = some t → h = i
  rvLe : ∀ h, h < p.H → ∀ r, (s.rows h).rv = some r → r ≤ s.clock
  wvLe : ∀ h, h < p.H → ∀ w, (s.rows h).wv = some w → w ≤ s.clock
  stLe : ∀ c, c < p.m → (s.cells c).stamp ≤ s.clock
  rsOk : ∀ h, h < p.H → LOk p.m (s.rows h).rs
  row : ∀ h, h < p.H → RowOk p h (s.rows h)
  hold : ∀ c, c < p.m → ∀ h, (s.cells c).holder = some h ↔ (h < p.H ∧ c ∈ (s.rows h).held)
  old : ∀ q i, q < p.H → i < p.H → q ≠ i → ∀ w, (s.rows q).wv = some w → ∀ c, c ∈ (s.rows q).held → c ∈ (s.rows i).rs.map (·.1) → ∀ r, (s.rows i).rv = some r → r < w
theorem srt_len : ∀ (l : RL) (lo m : Nat), Srt l → (∀ q ∈ l, lo ≤ q.1 ∧ q.1 < m) → l.length ≤ m - lo
  | [], _, _, _, _ => Nat.zero_le _
  | x :: r, lo, m, hs, hb => by
    have h1 := List.pairwise_cons.mp hs
    have hx := hb x (List.mem_cons_self)
    have ih := srt_len r (x.1 + 1) m h1.2 fun q hq => ⟨h1.1 q hq, (hb q (List.mem_cons_of_mem _ hq)).2⟩
    simp only [List.length_cons]
    omega
theorem LOk.len {m : Nat} {l : RL} (h : LOk m l) : l.length ≤ m := by
  have := srt_len l 0 m h.srt fun q hq => ⟨Nat.zero_le _, h.lt q hq⟩
  omega
theorem LOk.nil {m : Nat} : LOk m [] := ⟨List.Pairwise.nil, fun q h => by simp at h⟩
theorem mem_ins {q x : Nat × Int} : ∀ {l : RL}, x ∈ ins q l ↔ x = q ∨ x ∈ l
  | [] => by simp [ins]
  | y :: r => by
    unfold ins
    split
    · rw [List.mem_cons, mem_ins (l := r), List.mem_cons]
      constructor
      · rintro (h | h | h)
        · exact .inr (.inl h)
        · exact .inl h
        · exact .inr (.inr h)
      · rintro (h | h | h)
        · exact .inr (.inl h)
        · exact .inl h
        · exact .inr (.inr h)
    · simp
theorem len_ins {q : Nat × Int} : ∀ {l : RL}, (ins q l).length = l.length + 1
  | [] => rfl
  | y :: r => by
    unfold ins
    split
    · simp [len_ins (l := r)]
    · simp
theorem srt_ins {q : Nat × Int} : ∀ {l : RL}, Srt l → q.1 ∉ l.map (·.1) → Srt (ins q l)
  | [], _, _ => by simp [ins, Srt]
  | y :: r, hs, hn => by
    have h1 := List.pairwise_cons.mp hs
    have hn' : q.1 ≠ y.1 ∧ q.1 ∉ r.map (·.1) := by
      rw [List.map_cons, List.mem_cons] at hn
      exact ⟨fun e => hn (.inl e), fun e => hn (.inr e)⟩
    unfold ins
    split
    · rename_i hlt
      refine List.pairwise_cons.mpr ⟨fun x hx => ?_, srt_ins h1.2 hn'.2⟩
      rcases mem_ins.mp hx with e | e
      · rw [e]; exact hlt
      · exact h1.1 x e
    · rename_i hlt
      have : q.1 < y.1 := by have := hn'.1; omega
      refine List.pairwise_cons.mpr ⟨fun x hx => ?_, hs⟩
      rcases List.mem_cons.mp hx with e | e
      · rw [e]; exact this
      · exact Nat.lt_trans this (h1.1 x e)
theorem LOk.ins {m : Nat} {l : RL} {q : Nat × Int} (h : LOk m l) (hq : q.1 < m) (hn : q.1 ∉ l.map (·.1)) : LOk m (ins q l) :=
  ⟨srt_ins h.srt hn, fun x hx => by
    rcases mem_ins.mp hx with e | e
    · rw [e]; exact hq
    · exact h.lt x e⟩
theorem srt_get {l : RL} (h : Srt l) {i j : Nat} {a b : Nat × Int} (hij : i < j) (ha : l[i]? = some a) (hb : l[j]? = some b) : a.1 < b.1 := by
  obtain ⟨h1, e1⟩ := List.getElem?_eq_some_iff.mp ha
  obtain ⟨h2, e2⟩ := List.getElem?_eq_some_iff.mp hb
  have := List.pairwise_iff_getElem.mp h i j h1 h2 hij
  rw [e1, e2] at this
  exact this
theorem mem_take_succ {l : RL} {d : Nat} {q : Nat × Int} (h : l[d]? = some q) {c : Nat} : c ∈ (l.take (d + 1)).map (·.1) ↔ c ∈ (l.take d).map (·.1) ∨ c = q.1 := by
  rw [List.take_add_one, h]
  simp
theorem mem_drop {l : RL} {d : Nat} {q : Nat × Int} (h : l[d]? = some q) {c : Nat} : c ∈ (l.drop d).map (·.1) ↔ c = q.1 ∨ c ∈ (l.drop (d + 1)).map (·.1) := by
  obtain ⟨h1, e1⟩ := List.getElem?_eq_some_iff.mp h
  rw [List.drop_eq_getElem_cons h1, e1, List.map_cons, List.mem_cons]
theorem not_mem_drop {l : RL} (hs : Srt l) {d : Nat} {q : Nat × Int} (h : l[d]? = some q) : q.1 ∉ (l.drop (d + 1)).map (·.1) := by
  intro hm
  obtain ⟨x, hx, e⟩ := List.mem_map.mp hm
  obtain ⟨i, hi⟩ := List.mem_iff_getElem?.mp hx
  rw [List.getElem?_drop] at hi
  have := srt_get hs (i := d) (j := d + 1 + i) (by omega) h hi
  omega
theorem take_lt {l : RL} (hs : Srt l) {d : Nat} {q : Nat × Int} (h : l[d]? = some q) {c : Nat} (hm : c ∈ (l.take d).map (·.1)) : c < q.1 := by
  obtain ⟨x, hx, e⟩ := List.mem_map.mp hm
  obtain ⟨i, hi⟩ := List.mem_iff_getElem?.mp hx
  rw [List.getElem?_take] at hi
  split at hi
  · rename_i hid
    have := srt_get hs hid hi h
    omega
  · cases hi
/-- a row that begins anew, or stays -/
def Sub (n : Nat) (a b : Row) : Prop := a = b ∨ (a = .new b.k b.tk ∧ b.k < n)
theorem Sub.tk {n : Nat} {a b : Row} (h : Sub n a b) : a.tk = b.tk := by
  rcases h with e | ⟨e, _⟩ <;> rw [e] <;> rfl
theorem Sub.rv {n : Nat} {a b : Row} (h : Sub n a b) {r : Int} (e : a.rv = some r) : b.rv = some r := by
  rcases h with q | ⟨q, _⟩ <;> rw [q] at e
  · exact e
  · cases e
theorem Sub.wv {n : Nat} {a b : Row} (h : Sub n a b) {r : Int} (e : a.wv = some r) : b.wv = some r := by
  rcases h with q | ⟨q, _⟩ <;> rw [q] at e
  · exact e
  · cases e
theorem Sub.sure {n : Nat} {a b : Row} (h : Sub n a b) {r : Int} (e : a.sure = some r) : b.sure = some r := by
  rcases h with q | ⟨q, _⟩ <;> rw [q] at e
  · exact e
  · cases e
theorem Sub.rs {n : Nat} {a b : Row} (h : Sub n a b) : a.rs = b.rs ∨ a.rs = [] := by
  rcases h with q | ⟨q, _⟩ <;> rw [q]
  · exact .inl rfl
  · exact .inr rfl
theorem Sub.mrs {n : Nat} {a b : Row} (h : Sub n a b) {c : Nat} (e : c ∈ a.rs.map (·.1)) : c ∈ b.rs.map (·.1) := by
  rcases h.rs with q | q <;> rw [q] at e
  · exact e
  · simp at e
theorem Sub.held {n : Nat} {a b : Row} (h : Sub n a b) {c : Nat} (e : c ∈ a.held) : c ∈ b.held ∧ a = b := by
  rcases h with q | ⟨q, _⟩
  · rw [q] at e; exact ⟨e, q⟩
  · rw [q] at e; simp [Row.held] at e
theorem inv_gen {p : P} {s s' : S} {h : Nat} (I : Inv p s)
    (oth : ∀ i, i < p.H → i ≠ h → Sub (p.n i) (s'.rows i) (s.rows i))
    (clk : s.clock ≤ s'.clock) (tks : s.tickets ≤ s'.tickets)
    (tk1 : ∀ t, (s'.rows h).tk = some t → (s.rows h).tk = some t ∨ (t = s.tickets ∧ s.tickets < s'.tickets))
    (rv1 : ∀ r, (s'.rows h).rv = some r → r ≤ s'.clock) (wv1 : ∀ w, (s'.rows h).wv = some w → w ≤ s'.clock)
    (st1 : ∀ c, c < p.m → (s'.cells c).stamp ≤ s'.clock) (rs1 : LOk p.m (s'.rows h).rs) (row1 : RowOk p h (s'.rows h))
    (hold1 : ∀ c, c < p.m → ∀ i, (s'.cells c).holder = some i ↔ (i < p.H ∧ c ∈ (s'.rows i).held))
    (oldq : ∀ i, i < p.H → h ≠ i → ∀ w, (s'.rows h).wv = some w → ∀ c, c ∈ (s'.rows h).held → c ∈ (s'.rows i).rs.map (·.1) → ∀ r, (s'.rows i).rv = some r → r < w)
    (oldi : ∀ q, q < p.H → q ≠ h → ∀ w, (s'.rows q).wv = some w → ∀ c, c ∈ (s'.rows q).held → c ∈ (s'.rows h).rs.map (·.1) → ∀ r, (s'.rows h).rv = some r → r < w) : Inv p s' where
  tkLt := fun i hi t e => by
    by_cases q : i = h
    · subst q
      rcases tk1 t e with e | ⟨e, k⟩
      · have := I.tkLt i hi t e; omega
      · omega
    · have := I.tkLt i hi t ((oth i hi q).tk ▸ e); omega
  tkInj := fun i j hi hj t e1 e2 => by
    by_cases q1 : i = h
    · by_cases q2 : j = h
      · omega
      · have e2' := (oth j hj q2).tk ▸ e2
        subst q1
        rcases tk1 t e1 with e | ⟨e, _⟩
        · exact I.tkInj i j hi hj t e e2'
        · have := I.tkLt j hj t e2'; omega
    · have e1' := (oth i hi q1).tk ▸ e1
      by_cases q2 : j = h
      · subst q2
        rcases tk1 t e2 with e | ⟨e, _⟩
        · exact I.tkInj i j hi hj t e1' e
        · have := I.tkLt i hi t e1'; omega
      · exact I.tkInj i j hi hj t e1' ((oth j hj q2).tk ▸ e2)
  rvLe := fun i hi r e => by
    by_cases q : i = h
    · subst q; exact rv1 r e
    · have := I.rvLe i hi r ((oth i hi q).rv e); omega
  wvLe := fun i hi r e => by
    by_cases q : i = h
    · subst q; exact wv1 r e
    · have := I.wvLe i hi r ((oth i hi q).wv e); omega
  stLe := st1
  rsOk := fun i hi => by
    by_cases q : i = h
    · subst q; exact rs1
    · rcases (oth i hi q).rs with e | e <;> rw [e]
      · exact I.rsOk i hi
      · exact .nil
  row := fun i hi => by
    by_cases q : i = h
    · subst q; exact row1
    · rcases oth i hi q with e | ⟨e, k⟩ <;> rw [e]
      · exact I.row i hi
      · exact k
  hold := hold1
  old := fun q i hq hi ne w e c hc hr r er => by
    by_cases q1 : q = h
    · subst q1; exact oldq i hi ne w e c hc hr r er
    · by_cases q2 : i = h
      · subst q2; exact oldi q hq ne w e c hc hr r er
      · exact I.old q i hq hi ne w ((oth q hq q1).wv e) c ((oth q hq q1).held hc).1 ((oth i hi q2).mrs hr) r ((oth i hi q2).rv er)
theorem rowNew_held {n k : Nat} {tk : Option Int} : (rowNew n k tk).held = [] := by unfold rowNew; split <;> rfl
theorem rowNew_rs {n k : Nat} {tk : Option Int} : (rowNew n k tk).rs = [] := by unfold rowNew; split <;> rfl
theorem rowNew_rv {n k : Nat} {tk : Option Int} : (rowNew n k tk).rv = none := by unfold rowNew; split <;> rfl
theorem rowNew_wv {n k : Nat} {tk : Option Int} : (rowNew n k tk).wv = none := by unfold rowNew; split <;> rfl
theorem rowNew_sure {n k : Nat} {tk : Option Int} : (rowNew n k tk).sure = none := by unfold rowNew; split <;> rfl
theorem rowNew_ok {p : P} {h k : Nat} {tk : Option Int} (hk : k ≤ p.n h) : RowOk p h (rowNew (p.n h) k tk) := by
  unfold rowNew; split
  · rename_i e; exact e
  · show k < p.n h; omega
theorem rowNew_lt {n k : Nat} {tk : Option Int} (hk : k < n) : rowNew n k tk = .new k tk := by unfold rowNew; rw [if_neg (by omega)]
theorem RowOk.lt {p : P} {h : Nat} {r : Row} (x : RowOk p h r) (nt : ∀ k, r ≠ .through k) : r.k < p.n h := by
  cases r with
  | new k tk => exact x
  | walks k t r rs => exact x
  | locks k t r rs ws d => exact x.1
  | checks k t r w rs ws d => exact x.1
  | backs k t r w rs ws d => exact x.1
  | sleeps k t r rs => exact x
  | through k => exact absurd rfl (nt k)
theorem held_lt {p : P} (ok : POk p) {h : Nat} {r : Row} (x : RowOk p h r) {c : Nat} (hc : c ∈ r.held) : c < p.m := by
  cases r with
  | locks k t r rs ws d =>
    obtain ⟨q, hq, e⟩ := List.mem_map.mp hc
    rw [← e]; exact (ok.en _ _ _ _ x.2.1).lt q (List.mem_of_mem_take hq)
  | checks k t r w rs ws d =>
    obtain ⟨q, hq, e⟩ := List.mem_map.mp hc
    rw [← e]; exact (ok.en _ _ _ _ x.2.1).lt q hq
  | backs k t r w rs ws d =>
    obtain ⟨q, hq, e⟩ := List.mem_map.mp hc
    rw [← e]; exact (ok.en _ _ _ _ x.2.1).lt q (List.mem_of_mem_drop hq)
  | _ => simp [Row.held] at hc
theorem free_num {h : Nat} {c : Cell} : (free h c).num = c.num := by unfold free; split <;> rfl
theorem free_stamp {h : Nat} {c : Cell} : (free h c).stamp = c.stamp := by unfold free; split <;> rfl
theorem free_holder {h i : Nat} {c : Cell} : (free h c).holder = some i ↔ c.holder = some i ∧ i ≠ h := by
  unfold free
  split
  · rename_i e
    rw [e]
    constructor
    · intro q; cases q
    · rintro ⟨q, n⟩; exact absurd (Option.some.inj q).symm n
  · rename_i e
    constructor
    · intro q; exact ⟨q, fun z => e (z ▸ q)⟩
    · exact fun q => q.1
/-! ### each deed keeps what holds -/
section
variable {p : P} {s : S} {h : Nat}
theorem giveUp_inv (I : Inv p s) (hh : h < p.H) (nt : ∀ k, s.rows h ≠ .through k) : Inv p (giveUp p s h) := by
  have hk : (s.rows h).k < p.n h := (I.row h hh).lt nt
  have er : (giveUp p s h).rows h = .new (s.rows h).k (s.rows h).tk := by
    show upd s.rows h _ h = _
    rw [upd_same, rowNew_lt hk]
  have eo : ∀ i, i ≠ h → (giveUp p s h).rows i = s.rows i := fun i hi => upd_ne hi
  refine inv_gen (h := h) I (fun i hi ne => .inl (eo i ne)) (Int.le_refl _) (Int.le_refl _) (fun t e => ?_) (fun r e => ?_) (fun w e => ?_) (fun c hc => ?_) ?_ ?_ (fun c hc i => ?_) (fun i hi ne w e => ?_) (fun q hq ne w e c hc hr => ?_)
  · rw [er] at e; exact .inl e
  · rw [er] at e; cases e
  · rw [er] at e; cases e
  · show (free h (s.cells c)).stamp ≤ _
    rw [free_stamp]; exact I.stLe c hc
  · rw [er]; exact .nil
  · rw [er]; exact hk
  · show (free h (s.cells c)).holder = some i ↔ _
    rw [free_holder, I.hold c hc i]
    by_cases q : i = h
    · subst q
      rw [er]
      simp [Row.held]
    · rw [eo i q]
      simp [q]
  · rw [er] at e; cases e
  · rw [er] at hr; simp [Row.rs] at hr
theorem doneWith_inv (I : Inv p s) (hh : h < p.H) (nt : ∀ k, s.rows h ≠ .through k) (he : (s.rows h).held = []) : Inv p (doneWith p s h) := by
  have hk : (s.rows h).k < p.n h := (I.row h hh).lt nt
  have er : (doneWith p s h).rows h = rowNew (p.n h) ((s.rows h).k + 1) none := upd_same
  have eo : ∀ i, i ≠ h → (doneWith p s h).rows i = s.rows i := fun i hi => upd_ne hi
  refine inv_gen (h := h) I (fun i hi ne => .inl (eo i ne)) (Int.le_refl _) (Int.le_refl _) (fun t e => ?_) (fun r e => ?_) (fun w e => ?_) (fun c hc => I.stLe c hc) ?_ ?_ (fun c hc i => ?_) (fun i hi ne w e => ?_) (fun q hq ne w e c hc hr => ?_)
  · rw [er] at e
    unfold rowNew at e
    split at e <;> cases e
  · rw [er, rowNew_rv] at e; cases e
  · rw [er, rowNew_wv] at e; cases e
  · rw [er, rowNew_rs]; exact .nil
  · rw [er]; exact rowNew_ok hk
  · show (s.cells c).holder = some i ↔ _
    rw [I.hold c hc i]
    by_cases q : i = h
    · subst q
      rw [er, rowNew_held, he]
    · rw [eo i q]
  · rw [er, rowNew_wv] at e; cases e
  · rw [er, rowNew_rs] at hr; simp at hr
theorem lock_inv (ok : POk p) (I : Inv p s) (hh : h < p.H) {k : Nat} {t r : Int} {rs ws : RL} {d : Nat} {q : Nat × Int}
    (hk : k < p.n h) (hg : p.g h k rs = .ended ws) (et : (s.rows h).tk = some t) (erv : (s.rows h).rv = some r) (ers : (s.rows h).rs = rs) (ehd : (s.rows h).held = (ws.take d).map (·.1))
    (hq : ws[d]? = some q) (hn : (s.cells q.1).holder = none) :
    Inv p { s with cells := upd s.cells q.1 { (s.cells q.1) with holder := some h }, rows := upd s.rows h (.locks k t r rs ws (d + 1)) } := by
  have hd : d < ws.length := (List.getElem?_eq_some_iff.mp hq).1
  have hqm : q.1 < p.m := (ok.en _ _ _ _ hg).lt q (List.mem_of_getElem? hq)
  have eo : ∀ i, i ≠ h → upd s.rows h (Row.locks k t r rs ws (d + 1)) i = s.rows i := fun i hi => upd_ne hi
  refine inv_gen (h := h) I (fun i hi ne => .inl (eo i ne)) (Int.le_refl _) (Int.le_refl _) (fun t' e => ?_) (fun r' e => ?_) (fun w e => ?_) (fun c hc => ?_) ?_ ?_ (fun c hc i => ?_) (fun i hi ne w e => ?_) (fun q' hq' ne w e c hc hr r' er' => ?_)
  all_goals simp only [upd_same] at *
  · exact .inl (et.trans e)
  · cases e; exact I.rvLe h hh r erv
  · cases e
  · show (upd s.cells q.1 _ c).stamp ≤ _
    by_cases z : c = q.1
    · subst z; rw [upd_same]; exact I.stLe _ hc
    · rw [upd_ne z]; exact I.stLe _ hc
  · show LOk p.m rs
    rw [← ers]; exact I.rsOk h hh
  · exact ⟨hk, hg, by omega, by omega⟩
  · show (upd s.cells q.1 _ c).holder = some i ↔ _
    by_cases z : c = q.1
    · subst z
      rw [upd_same]
      show some h = some i ↔ _
      constructor
      · intro e
        have e := Option.some.inj e
        subst e
        rw [upd_same]
        exact ⟨hh, (mem_take_succ hq).mpr (.inr rfl)⟩
      · rintro ⟨hi, hm⟩
        by_cases y : i = h
        · rw [y]
        · rw [upd_ne y] at hm
          have := (I.hold _ hc i).mpr ⟨hi, hm⟩
          rw [hn] at this; cases this
    · rw [upd_ne z, I.hold c hc i]
      by_cases y : i = h
      · subst y
        rw [upd_same, ehd]
        show _ ∧ _ ↔ _ ∧ c ∈ (ws.take (d + 1)).map (·.1)
        rw [mem_take_succ hq]
        simp [z]
      · rw [upd_ne y]
  · cases e
  · have e' : (s.rows q').wv = some w := (eo q' ne) ▸ e
    have hc' : c ∈ (s.rows q').held := (eo q' ne) ▸ hc
    exact I.old q' h hq' hh ne w e' c hc' (ers ▸ hr) r' (erv.trans er')
theorem Row.sure_wv {r : Row} {w : Int} (e : r.sure = some w) : r.wv = some w := by
  cases r <;> first | exact e | cases e
theorem begin_inv (I : Inv p s) (hh : h < p.H) {k : Nat} {tk : Option Int} (e0 : s.rows h = .new k tk) :
    Inv p { s with tickets := if tk = none then s.tickets + 1 else s.tickets, rows := upd s.rows h (.walks k (tk.getD s.tickets) s.clock []) } := by
  have eo : ∀ i, i ≠ h → upd s.rows h (Row.walks k (tk.getD s.tickets) s.clock []) i = s.rows i := fun i hi => upd_ne hi
  refine inv_gen (h := h) I (fun i hi ne => .inl (eo i ne)) (Int.le_refl _) ?_ (fun t' e => ?_) (fun r' e => ?_) (fun w e => ?_) (fun c hc => I.stLe c hc) ?_ ?_ (fun c hc i => ?_) (fun i hi ne w e => ?_) (fun q' hq' ne w e c hc hr r' er' => ?_)
  all_goals simp only [upd_same] at *
  · show s.tickets ≤ if tk = none then s.tickets + 1 else s.tickets
    split <;> omega
  · cases e
    rw [e0]
    cases tk with
    | none => right; exact ⟨rfl, by show s.tickets < if (none : Option Int) = none then _ else _; rw [if_pos rfl]; omega⟩
    | some t => left; rfl
  · cases e; exact Int.le_refl _
  · cases e
  · exact .nil
  · have := I.row h hh
    rw [e0] at this
    exact this
  · rw [I.hold c hc i]
    by_cases y : i = h
    · subst y
      rw [upd_same, e0]
      rfl
    · rw [upd_ne y]
  · cases e
  · simp [Row.rs] at hr
theorem read_inv (ok : POk p) (I : Inv p s) (hh : h < p.H) {k : Nat} {t r : Int} {rs : RL} {c : Nat} (e0 : s.rows h = .walks k t r rs)
    (hg : p.g h k rs = .reads c) (hn : (s.cells c).holder = none) : Inv p { s with rows := upd s.rows h (.walks k t r (ins (c, (s.cells c).num) rs)) } := by
  have eo : ∀ i, i ≠ h → upd s.rows h (Row.walks k t r (ins (c, (s.cells c).num) rs)) i = s.rows i := fun i hi => upd_ne hi
  have hc0 := ok.rd _ _ _ _ hg
  refine inv_gen (h := h) I (fun i hi ne => .inl (eo i ne)) (Int.le_refl _) (Int.le_refl _) (fun t' e => ?_) (fun r' e => ?_) (fun w e => ?_) (fun c hc => I.stLe c hc) ?_ ?_ (fun c' hc i => ?_) (fun i hi ne w e => ?_) (fun q' hq' ne w e c' hc hr r' er' => ?_)
  all_goals simp only [upd_same] at *
  · left; rw [e0]; exact e
  · cases e; exact I.rvLe h hh r (by rw [e0]; rfl)
  · cases e
  · have := I.rsOk h hh
    rw [e0] at this
    exact LOk.ins this hc0.1 hc0.2
  · have := I.row h hh
    rw [e0] at this
    exact this
  · rw [I.hold c' hc i]
    by_cases y : i = h
    · subst y
      rw [upd_same, e0]
      rfl
    · rw [upd_ne y]
  · cases e
  · rw [eo q' ne] at e hc
    obtain ⟨x, hx, ex⟩ := List.mem_map.mp hr
    rcases mem_ins.mp hx with z | z
    · have hcm : c' < p.m := by rw [← ex, z]; exact hc0.1
      have := (I.hold c' hcm q').mpr ⟨hq', hc⟩
      rw [← ex, z] at this
      rw [hn] at this; cases this
    · exact I.old q' h hq' hh ne w e c' hc (by rw [e0]; exact List.mem_map.mpr ⟨x, z, ex⟩) r' (by rw [e0]; exact er')
theorem sleep_inv (I : Inv p s) (hh : h < p.H) {k : Nat} {t r : Int} {rs : RL} (e0 : s.rows h = .walks k t r rs) : Inv p { s with rows := upd s.rows h (.sleeps k t r rs) } := by
  have eo : ∀ i, i ≠ h → upd s.rows h (Row.sleeps k t r rs) i = s.rows i := fun i hi => upd_ne hi
  refine inv_gen (h := h) I (fun i hi ne => .inl (eo i ne)) (Int.le_refl _) (Int.le_refl _) (fun t' e => ?_) (fun r' e => ?_) (fun w e => ?_) (fun c hc => I.stLe c hc) ?_ ?_ (fun c' hc i => ?_) (fun i hi ne w e => ?_) (fun q' hq' ne w e c' hc hr r' er' => ?_)
  all_goals simp only [upd_same] at *
  · left; rw [e0]; exact e
  · cases e; exact I.rvLe h hh r (by rw [e0]; rfl)
  · cases e
  · have := I.rsOk h hh
    rw [e0] at this
    exact this
  · have := I.row h hh
    rw [e0] at this
    exact this
  · rw [I.hold c' hc i]
    by_cases y : i = h
    · subst y
      rw [upd_same, e0]
      rfl
    · rw [upd_ne y]
  · cases e
  · rw [eo q' ne] at e hc
    exact I.old q' h hq' hh ne w e c' hc (by rw [e0]; exact hr) r' (by rw [e0]; exact er')
theorem clock_inv (I : Inv p s) (hh : h < p.H) {k : Nat} {t r : Int} {rs ws : RL} {d : Nat} (e0 : s.rows h = .locks k t r rs ws d) (hd : ¬ d < ws.length) :
    Inv p { s with clock := s.clock + 1, rows := upd s.rows h (if rs = [] then .backs k t r (s.clock + 1) rs ws 0 else .checks k t r (s.clock + 1) rs ws 0) } := by
  generalize eρ : (if rs = [] then Row.backs k t r (s.clock + 1) rs ws 0 else Row.checks k t r (s.clock + 1) rs ws 0) = ρ
  have hρ : ρ.tk = some t ∧ ρ.rv = some r ∧ ρ.wv = some (s.clock + 1) ∧ ρ.rs = rs ∧ ρ.held = ws.map (·.1) := by
    rw [← eρ]; split <;> exact ⟨rfl, rfl, rfl, rfl, rfl⟩
  obtain ⟨h1, h2, h3, h4, h5⟩ := hρ
  have rw0 := I.row h hh
  rw [e0] at rw0
  have eo : ∀ i, i ≠ h → upd s.rows h ρ i = s.rows i := fun i hi => upd_ne hi
  refine inv_gen (h := h) I (fun i hi ne => .inl (eo i ne)) (by show s.clock ≤ s.clock + 1; omega) (Int.le_refl _) (fun t' e => ?_) (fun r' e => ?_) (fun w e => ?_) (fun c hc => ?_) ?_ ?_ (fun c' hc i => ?_) (fun i hi ne w e c hc hr r' er' => ?_) (fun q' hq' ne w e c' hc hr r' er' => ?_)
  all_goals simp only [upd_same] at *
  · left; rw [e0]; rw [h1] at e; exact e
  · rw [h2] at e; cases e
    have := I.rvLe h hh r (by rw [e0]; rfl)
    omega
  · rw [h3] at e; cases e; exact Int.le_refl _
  · have := I.stLe c hc
    show (s.cells c).stamp ≤ s.clock + 1
    omega
  · have := I.rsOk h hh
    rw [e0] at this
    rw [h4]
    exact this
  · rw [← eρ]
    split
    · exact ⟨rw0.1, rw0.2.1, rw0.2.2.2⟩
    · rename_i ne
      exact ⟨rw0.1, rw0.2.1, List.length_pos_iff.mpr ne, rw0.2.2.2⟩
  · rw [I.hold c' hc i]
    by_cases y : i = h
    · subst y
      rw [upd_same, e0, h5]
      show _ ∧ c' ∈ (ws.take d).map (·.1) ↔ _
      rw [List.take_of_length_le (by omega)]
    · rw [upd_ne y]
  · rw [eo i (Ne.symm ne)] at er'
    have := I.rvLe i hi r' er'
    rw [h3] at e; cases e
    omega
  · rw [eo q' ne] at e hc
    rw [h4] at hr
    rw [h2] at er'
    exact I.old q' h hq' hh ne w e c' hc (by rw [e0]; exact hr) r' (by rw [e0]; exact er')
theorem adv_inv (I : Inv p s) (hh : h < p.H) {k : Nat} {t r w : Int} {rs ws : RL} {d : Nat} (e0 : s.rows h = .checks k t r w rs ws d) : Inv p (adv s h k t r w rs ws d) := by
  unfold adv
  generalize eρ : (if d + 1 = rs.length then Row.backs k t r w rs ws 0 else Row.checks k t r w rs ws (d + 1)) = ρ
  have hρ : ρ.tk = some t ∧ ρ.rv = some r ∧ ρ.wv = some w ∧ ρ.rs = rs ∧ ρ.held = ws.map (·.1) := by
    rw [← eρ]; split <;> exact ⟨rfl, rfl, rfl, rfl, rfl⟩
  obtain ⟨h1, h2, h3, h4, h5⟩ := hρ
  have rw0 := I.row h hh
  rw [e0] at rw0
  have eo : ∀ i, i ≠ h → upd s.rows h ρ i = s.rows i := fun i hi => upd_ne hi
  refine inv_gen (h := h) I (fun i hi ne => .inl (eo i ne)) (Int.le_refl _) (Int.le_refl _) (fun t' e => ?_) (fun r' e => ?_) (fun w' e => ?_) (fun c hc => I.stLe c hc) ?_ ?_ (fun c' hc i => ?_) (fun i hi ne w' e c hc hr r' er' => ?_) (fun q' hq' ne w' e c' hc hr r' er' => ?_)
  all_goals simp only [upd_same] at *
  · left; rw [e0]; rw [h1] at e; exact e
  · rw [h2] at e; cases e
    exact I.rvLe h hh r (by rw [e0]; rfl)
  · rw [h3] at e; cases e; exact I.wvLe h hh w (by rw [e0]; rfl)
  · have := I.rsOk h hh
    rw [e0] at this
    rw [h4]
    exact this
  · rw [← eρ]
    split
    · exact ⟨rw0.1, rw0.2.1, rw0.2.2.2⟩
    · rename_i ne
      have := rw0.2.2.1
      exact ⟨rw0.1, rw0.2.1, by omega, rw0.2.2.2⟩
  · rw [I.hold c' hc i]
    by_cases y : i = h
    · subst y
      rw [upd_same, e0, h5]
      rfl
    · rw [upd_ne y]
  · rw [eo i (Ne.symm ne)] at er' hr
    rw [h3] at e
    rw [h5] at hc
    exact I.old h i hh hi ne w' (by rw [e0]; exact e) c (by rw [e0]; exact hc) hr r' er'
  · rw [eo q' ne] at e hc
    rw [h4] at hr
    rw [h2] at er'
    exact I.old q' h hq' hh ne w' e c' hc (by rw [e0]; exact hr) r' (by rw [e0]; exact er')
theorem wakes_new {n c : Nat} {r : Row} (h : wakes c r = true) : ∃ k t v rs, r = .sleeps k t v rs ∧ c ∈ rs.map (·.1) := by
  cases r with
  | sleeps k t v rs => exact ⟨k, t, v, rs, rfl, of_decide_eq_true h⟩
  | _ => cases h
def backS (p : P) (s : S) (h k : Nat) (t r w : Int) (rs ws : RL) (d : Nat) (q : Nat × Int) : S :=
  { s with cells := upd s.cells q.1 ⟨q.2, w, none⟩,
           rows := fun i => if i = h then (if d + 1 = ws.length then rowNew (p.n h) (k + 1) none else .backs k t r w rs ws (d + 1))
             else if wakes q.1 (s.rows i) then rowNew (p.n i) (s.rows i).k (s.rows i).tk else s.rows i }
section
variable {k : Nat} {t r w : Int} {rs ws : RL} {d : Nat} {q : Nat × Int}
theorem back_row : (backS p s h k t r w rs ws d q).rows h = if d + 1 = ws.length then rowNew (p.n h) (k + 1) none else .backs k t r w rs ws (d + 1) := if_pos rfl
theorem back_oth (I : Inv p s) {i : Nat} (hi : i < p.H) (ne : i ≠ h) : Sub (p.n i) ((backS p s h k t r w rs ws d q).rows i) (s.rows i) ∧ (wakes q.1 (s.rows i) = false → (backS p s h k t r w rs ws d q).rows i = s.rows i) := by
  have e : (backS p s h k t r w rs ws d q).rows i = if wakes q.1 (s.rows i) then rowNew (p.n i) (s.rows i).k (s.rows i).tk else s.rows i := if_neg ne
  rw [e]
  by_cases hw : wakes q.1 (s.rows i) = true
  · rw [if_pos hw]
    have hk : (s.rows i).k < p.n i := (I.row i hi).lt fun k e => by rw [e] at hw; cases hw
    rw [rowNew_lt hk]
    exact ⟨.inr ⟨rfl, hk⟩, fun z => by rw [hw] at z; cases z⟩
  · rw [if_neg hw]
    exact ⟨.inl rfl, fun _ => rfl⟩
theorem back_inv (ok : POk p) (I : Inv p s) (hh : h < p.H) (e0 : s.rows h = .backs k t r w rs ws d) (hq : ws[d]? = some q) : Inv p (backS p s h k t r w rs ws d q) := by
  have rw0 := I.row h hh
  rw [e0] at rw0
  have wok := ok.en _ _ _ _ rw0.2.1
  have hqm : q.1 < p.m := wok.lt q (List.mem_of_getElem? hq)
  have hcl : (backS p s h k t r w rs ws d q).clock = s.clock := rfl
  -- what the row of h is then
  have hρ : (((backS p s h k t r w rs ws d q).rows h) = rowNew (p.n h) (k + 1) none ∧ d + 1 = ws.length) ∨ (((backS p s h k t r w rs ws d q).rows h) = .backs k t r w rs ws (d + 1) ∧ d + 1 < ws.length) := by
    rw [back_row]
    by_cases z : d + 1 = ws.length
    · rw [if_pos z]; exact .inl ⟨rfl, z⟩
    · rw [if_neg z]
      have := rw0.2.2
      exact .inr ⟨rfl, by omega⟩
  have hheld : ∀ c, c ∈ ((backS p s h k t r w rs ws d q).rows h).held ↔ c ∈ (ws.drop (d + 1)).map (·.1) := fun c => by
    rcases hρ with ⟨e, z⟩ | ⟨e, z⟩
    · rw [e, rowNew_held, List.drop_of_length_le (by omega)]
      rfl
    · rw [e]; rfl
  generalize eσ : backS p s h k t r w rs ws d q = σ at *
  have oth : ∀ i, i < p.H → i ≠ h → Sub (p.n i) (σ.rows i) (s.rows i) := fun i hi ne => by rw [← eσ]; exact (back_oth I hi ne).1
  have e1 : ∀ c, σ.cells c = upd s.cells q.1 ⟨q.2, w, none⟩ c := fun c => by rw [← eσ]; rfl
  have e2 : σ.tickets = s.tickets := by rw [← eσ]; rfl
  refine inv_gen (h := h) I oth (by omega) (by omega) (fun t' e => ?_) (fun r' e => ?_) (fun w' e => ?_) (fun c hc => ?_) ?_ ?_ (fun c' hc i => ?_) (fun i hi ne w' e c hc hr r' er' => ?_) (fun q' hq' ne w' e c' hc hr r' er' => ?_)
  · rcases hρ with ⟨z, _⟩ | ⟨z, _⟩
    · rw [z] at e; unfold rowNew at e; split at e <;> cases e
    · rw [z] at e; rw [e0]; exact .inl e
  · rcases hρ with ⟨z, _⟩ | ⟨z, _⟩
    · rw [z, rowNew_rv] at e; cases e
    · rw [z] at e; rw [hcl]; exact I.rvLe h hh r' (by rw [e0]; exact e)
  · rcases hρ with ⟨z, _⟩ | ⟨z, _⟩
    · rw [z, rowNew_wv] at e; cases e
    · rw [z] at e; rw [hcl]; exact I.wvLe h hh w' (by rw [e0]; exact e)
  · rw [e1, hcl]
    by_cases z : c = q.1
    · subst z; rw [upd_same]; exact I.wvLe h hh w (by rw [e0]; rfl)
    · rw [upd_ne z]; exact I.stLe c hc
  · rcases hρ with ⟨z, _⟩ | ⟨z, _⟩
    · rw [z, rowNew_rs]; exact .nil
    · rw [z]
      have := I.rsOk h hh
      rw [e0] at this
      exact this
  · rcases hρ with ⟨z, _⟩ | ⟨z, y⟩
    · rw [z]; exact rowNew_ok rw0.1
    · rw [z]; exact ⟨rw0.1, rw0.2.1, y⟩
  · rw [e1]
    have hd0 : ∀ c, c ∈ (s.rows h).held ↔ c = q.1 ∨ c ∈ (ws.drop (d + 1)).map (·.1) := fun c => by rw [e0]; exact mem_drop hq
    have hheldI : i < p.H → i ≠ h → (c' ∈ (σ.rows i).held ↔ c' ∈ (s.rows i).held) := fun hi ne => by
      constructor
      · intro x; exact ((oth i hi ne).held x).1
      · intro x
        rcases oth i hi ne with z | ⟨z, _⟩
        · rw [z]; exact x
        · exfalso
          have hw : wakes q.1 (s.rows i) = true := by
            cases y : wakes q.1 (s.rows i) with
            | true => rfl
            | false =>
              have y2 := (back_oth (k := k) (t := t) (r := r) (w := w) (rs := rs) (ws := ws) (d := d) (q := q) I hi ne).2 y
              rw [eσ, z] at y2
              rw [← y2] at x
              simp [Row.held] at x
          obtain ⟨_, _, _, _, e, _⟩ := wakes_new (n := 0) hw
          rw [e] at x
          simp [Row.held] at x
    by_cases z : c' = q.1
    · subst z
      rw [upd_same]
      constructor
      · intro x; cases x
      · rintro ⟨hi, x⟩
        exfalso
        by_cases y : i = h
        · subst y
          exact not_mem_drop wok.srt hq ((hheld _).mp x)
        · have x' := (hheldI hi y).mp x
          have a := (I.hold _ hc i).mpr ⟨hi, x'⟩
          have b := (I.hold _ hc h).mpr ⟨hh, (hd0 _).mpr (.inl rfl)⟩
          rw [a] at b
          exact y (Option.some.inj b)
    · rw [upd_ne z, I.hold c' hc i]
      by_cases y : i = h
      · subst y
        rw [hheld, hd0]
        simp [z]
      · constructor
        · rintro ⟨hi, x⟩; exact ⟨hi, (hheldI hi y).mpr x⟩
        · rintro ⟨hi, x⟩; exact ⟨hi, (hheldI hi y).mp x⟩
  · rcases hρ with ⟨z, _⟩ | ⟨z, y⟩
    · rw [z, rowNew_wv] at e; cases e
    · rw [z] at e hc
      have so := oth i hi (Ne.symm ne)
      exact I.old h i hh hi ne w' (by rw [e0]; exact e) c (by rw [e0]; exact (mem_drop hq).mpr (.inr hc)) (so.mrs hr) r' (so.rv er')
  · rcases hρ with ⟨z, _⟩ | ⟨z, y⟩
    · rw [z, rowNew_rs] at hr; simp at hr
    · rw [z] at hr er'
      have so := oth q' hq' ne
      exact I.old q' h hq' hh ne w' (so.wv e) c' (so.held hc).1 (by rw [e0]; exact hr) r' (by rw [e0]; exact er')
end
theorem lockNext_inv (ok : POk p) (I : Inv p s) (hh : h < p.H) {k : Nat} {t r : Int} {rs ws : RL} {d : Nat}
    (hk : k < p.n h) (hg : p.g h k rs = .ended ws) (et : (s.rows h).tk = some t) (erv : (s.rows h).rv = some r) (ers : (s.rows h).rs = rs) (ehd : (s.rows h).held = (ws.take d).map (·.1)) :
    Inv p (lockNext s h k t r rs ws d).1 := by
  unfold lockNext
  split
  · exact I
  · rename_i q hq
    split
    · exact I
    · rename_i hn
      have hn' : (s.cells q.1).holder = none := by
        cases e : (s.cells q.1).holder with
        | none => rfl
        | some x => rw [e] at hn; exact absurd rfl hn
      exact lock_inv ok I hh hk hg et erv ers ehd hq hn'
theorem step_inv (ok : POk p) (I : Inv p s) (hh : h < p.H) : Inv p (step p s h).1 := by
  have rw0 := I.row h hh
  unfold step
  split
  · exact I
  · exact I
  · rename_i e0; exact begin_inv I hh e0
  · rename_i k t r rs e0
    have nt : ∀ k, s.rows h ≠ .through k := fun k e => by rw [e0] at e; cases e
    rw [e0] at rw0
    split
    · rename_i c hg
      split
      · exact I
      · rename_i hn
        split
        · exact giveUp_inv I hh nt
        · have hn' : (s.cells c).holder = none := by
            cases e : (s.cells c).holder with
            | none => rfl
            | some x => rw [e] at hn; exact absurd rfl hn
          exact read_inv ok I hh e0 hg hn'
    · split
      · exact giveUp_inv I hh nt
      · exact sleep_inv I hh e0
    · exact doneWith_inv I hh nt (by rw [e0]; rfl)
    · rename_i ws hg
      split
      · exact doneWith_inv I hh nt (by rw [e0]; rfl)
      · exact lockNext_inv ok I hh rw0 hg (by rw [e0]; rfl) (by rw [e0]; rfl) (by rw [e0]; rfl) (by rw [e0]; rfl)
  · rename_i k t r rs ws d e0
    rw [e0] at rw0
    split
    · exact lockNext_inv ok I hh rw0.1 rw0.2.1 (by rw [e0]; rfl) (by rw [e0]; rfl) (by rw [e0]; rfl) (by rw [e0]; rfl)
    · rename_i hd; exact clock_inv I hh e0 hd
  · rename_i k t r w rs ws d e0
    have nt : ∀ k, s.rows h ≠ .through k := fun k e => by rw [e0] at e; cases e
    rw [e0] at rw0
    split
    · exact I
    · rename_i q hq
      split
      · exact giveUp_inv I hh nt
      · split
        · exact adv_inv I hh e0
        · rename_i o ho
          split
          · exact adv_inv I hh e0
          · rename_i no
            split
            · exact giveUp_inv I hh nt
            · have hrs := I.rsOk h hh
              rw [e0] at hrs
              have hqm := hrs.lt q (List.mem_of_getElem? hq)
              obtain ⟨hoH, hm⟩ := (I.hold _ hqm o).mp ho
              have nto : ∀ k, s.rows o ≠ .through k := fun k e => by rw [e] at hm; simp [Row.held] at hm
              refine adv_inv (giveUp_inv I hoH nto) hh ?_
              show upd s.rows o _ h = _
              rw [upd_ne (Ne.symm no), e0]
  · rename_i k t r w rs ws d e0
    split
    · exact I
    · rename_i q hq
      exact back_inv ok I hh e0 hq
end
end K70
/-! ### sums -/
namespace K70
def sumN : Nat → (Nat → Nat) → Nat
  | 0, _ => 0
  | n + 1, f => sumN n f + f n
theorem sum_le {n : Nat} {f g : Nat → Nat} (h : ∀ i, i < n → f i ≤ g i) : sumN n f ≤ sumN n g := by
  induction n with
  | zero => exact Nat.le_refl _
  | succ n ih =>
    have := ih fun i hi => h i (by omega)
    have := h n (by omega)
    simp only [sumN]; omega
theorem sum_add {n : Nat} {f g : Nat → Nat} : sumN n (fun i => f i + g i) = sumN n f + sumN n g := by
  induction n with
  | zero => rfl
  | succ n ih => simp only [sumN, ih]; omega
theorem sum_mul {n a : Nat} {f : Nat → Nat} : sumN n (fun i => f i * a) = sumN n f * a := by
  induction n with
  | zero => simp [sumN]
  | succ n ih => simp only [sumN, ih, Nat.add_mul]
theorem sum_const {n a : Nat} : sumN n (fun _ => a) = n * a := by
  induction n with
  | zero => simp [sumN]
  | succ n ih => simp only [sumN, ih, Nat.add_mul]; omega
/-- all but one fall or grow by at most a, that one pays -/
theorem sum_pay {n j : Nat} {f g a : Nat → Nat} {x : Nat} (hj : j < n) (h : ∀ i, i < n → i ≠ j → f i ≤ g i + a i) (hp : f j + x ≤ g j) : sumN n f + x ≤ sumN n g + sumN n (fun i => if i = j then 0 else a i) := by
  induction n with
  | zero => omega
  | succ n ih =>
    by_cases e : j = n
    · subst e
      have h1 : sumN j f ≤ sumN j (fun i => g i + (if i = j then 0 else a i)) := sum_le fun i hi => by
        rw [if_neg (by omega)]; exact h i (by omega) (by omega)
      rw [sum_add] at h1
      simp only [sumN, if_true]
      omega
    · have := ih (by omega) fun i hi ne => h i (by omega) ne
      have := h n (by omega) (Ne.symm e)
      simp only [sumN]
      rw [if_neg (Ne.symm e)]
      omega
/-- one falls strictly -/
theorem sum_lt {n j : Nat} {f g : Nat → Nat} {x : Nat} (hj : j < n) (h : ∀ i, i < n → i ≠ j → f i ≤ g i) (hp : f j + x ≤ g j) : sumN n f + x ≤ sumN n g := by
  have := sum_pay (a := fun _ => 0) hj (fun i hi ne => by have := h i hi ne; omega) hp
  have e : sumN n (fun i => if i = j then 0 else 0) = 0 := by
    have : ∀ n, sumN n (fun i => if i = j then 0 else 0) = 0 := fun n => by
      induction n with
      | zero => rfl
      | succ n ih =>
        show sumN n _ + (if n = j then 0 else 0) = 0
        rw [ih]
        split <;> rfl
    exact this n
  rw [e] at this
  exact this
theorem sum_but {n j a : Nat} (hj : j < n) : sumN n (fun i => if i = j then 0 else a) + a = n * a := by
  have h1 : ∀ n, j ≥ n → sumN n (fun i => if i = j then 0 else a) = n * a := fun n => by
    induction n with
    | zero => intro _; simp [sumN]
    | succ n ih =>
      intro hn
      simp only [sumN]
      rw [ih (by omega), if_neg (by omega), Nat.add_mul]; omega
  induction n with
  | zero => omega
  | succ n ih =>
    simp only [sumN]
    by_cases e : j = n
    · subst e
      rw [h1 j (Nat.le_refl _), if_pos rfl, Nat.add_mul]; omega
    · have := ih (by omega)
      rw [if_neg (Ne.symm e), Nat.add_mul]; omega
theorem sum_at {n j a : Nat} (hj : j < n) : sumN n (fun i => if i = j then a else 0) = a := by
  have h1 : ∀ n, j ≥ n → sumN n (fun i => if i = j then a else 0) = 0 := fun n => by
    induction n with
    | zero => intro _; rfl
    | succ n ih =>
      intro hn
      simp only [sumN]
      rw [ih (by omega), if_neg (by omega)]
  induction n with
  | zero => omega
  | succ n ih =>
    simp only [sumN]
    by_cases e : j = n
    · subst e
      rw [h1 j (Nat.le_refl _), if_pos rfl]; omega
    · have := ih (by omega)
      rw [if_neg (Ne.symm e)]; omega
/-! ### who is elder -/
def eld (tk : Nat → Option Int) (x h : Nat) : Bool :=
  match tk x with
  | none => false
  | some t => match tk h with
    | none => true
    | some u => decide (t < u)
/-- x is another one, and not elder -/
def young (tk : Nat → Option Int) (h x : Nat) : Bool := decide (x ≠ h) && !eld tk x h
def yc (H : Nat) (tk : Nat → Option Int) (h : Nat) : Nat := sumN H (fun x => if young tk h x then 1 else 0)
theorem young_self {tk : Nat → Option Int} {h : Nat} : young tk h h = false := by simp [young]
theorem yc_lt {H : Nat} {tk : Nat → Option Int} {h : Nat} (hh : h < H) : yc H tk h + 1 ≤ H := by
  have h1 : yc H tk h + 1 ≤ sumN H (fun _ => 1) := sum_lt (j := h) hh (fun i _ _ => by split <;> omega) (by rw [young_self]; simp)
  rw [sum_const] at h1
  omega
theorem yc_elder {H : Nat} {tk : Nat → Option Int} {e h : Nat} {te th : Int} (hh : h < H) (ee : tk e = some te) (eh : tk h = some th) (lt : te < th) : yc H tk h + 1 ≤ yc H tk e := by
  refine sum_lt (j := h) hh (fun x _ ne => ?_) ?_
  · by_cases y : young tk h x = true
    · rw [if_pos y]
      have y2 : young tk e x = true := by
        unfold young eld at y ⊢
        rw [eh] at y
        rw [ee]
        cases ex : tk x with
        | none => simp [ex] at y ⊢; intro z; rw [z, ee] at ex; cases ex
        | some tx =>
          simp [ex] at y ⊢
          refine ⟨fun z => ?_, ?_⟩
          · rw [z, ee] at ex; cases ex; omega
          · omega
      rw [if_pos y2]; exact Nat.le_refl _
    · rw [if_neg y]; exact Nat.zero_le _
  · rw [young_self]
    have y2 : young tk e h = true := by
      unfold young eld
      rw [eh, ee]
      simp
      refine ⟨fun z => ?_, by omega⟩
      rw [z, ee] at eh; cases eh; omega
    rw [y2]; simp
/-! ### the potential -/
def L (m : Nat) : Nat := 3 * m + 2
def W (m : Nat) : Nat → Nat
  | 0 => L m
  | y + 1 => L m + m * (y + 2) * W m y
def Wp (m : Nat) : Nat → Nat
  | 0 => 0
  | y + 1 => W m y
theorem W_eq (m y : Nat) : W m y = L m + m * (y + 1) * Wp m y := by
  cases y with
  | zero => simp [W, Wp]
  | succ y => rfl
theorem W_pos (m y : Nat) : 1 ≤ W m y := by rw [W_eq]; unfold L; omega
theorem Wp_mono {m : Nat} : ∀ {y z : Nat}, y ≤ z → W m y ≤ W m z
  | _, 0, h => by rw [Nat.le_zero.mp h]; exact Nat.le_refl _
  | 0, z + 1, _ => by show L m ≤ L m + _; omega
  | y + 1, z + 1, h => by
    show L m + m * (y + 2) * W m y ≤ L m + m * (z + 2) * W m z
    have h1 := Wp_mono (m := m) (Nat.le_of_succ_le_succ h)
    have h2 : m * (y + 2) ≤ m * (z + 2) := Nat.mul_le_mul_left _ (by omega)
    have := Nat.mul_le_mul h2 h1
    omega
theorem W_le_Wp {m y z : Nat} (h : y + 1 ≤ z) : W m y ≤ Wp m z := by
  cases z with
  | zero => omega
  | succ z => exact Wp_mono (by omega)
section
variable (p : P) (s : S)
def tks : Nat → Option Int := fun i => (s.rows i).tk
/-- the cell is not taken from x's sight by e -/
def dd (e x c : Nat) : Bool := !(decide ((s.cells c).holder = some e) && !decide (c ∈ (s.rows x).rs.map (·.1)))
def D (e x : Nat) : Nat := sumN p.m (fun c => if dd s e x c then 1 else 0)
def yy (h : Nat) : Nat := yc p.H (tks s) h
def ht (h : Nat) : Nat := sumN p.H (fun x => if young (tks s) h x then D p s h x else 0) * Wp p.m (yy p s h)
def base (h : Nat) : Nat :=
  match s.rows h with
  | .new _ _ => W p.m (yy p s h)
  | .walks _ _ _ rs => (p.m - rs.length) + p.m + 1 + p.m * (1 + Wp p.m (yy p s h)) + ht p s h
  | .locks _ _ _ _ _ d => (p.m - d) + 1 + p.m * (1 + Wp p.m (yy p s h)) + ht p s h
  | .checks _ _ _ _ _ _ d => (p.m - d) * (1 + Wp p.m (yy p s h)) + ht p s h
  | .backs _ _ _ _ _ _ d => p.m - d
  | _ => 0
def staleP (h : Nat) (r : Int) : Prop := (∃ c, c < p.m ∧ (s.cells c).stamp > r) ∨ ∃ q w, q < p.H ∧ q ≠ h ∧ (s.rows q).sure = some w ∧ w > r
def staleB (h : Nat) : Prop := ∃ r, (s.rows h).sv = some r ∧ staleP p s h r
def C : Nat := W p.m (p.H - 1)
def isSure (r : Row) : Bool := r.sure.isSome
open Classical in
noncomputable def stale (h : Nat) : Nat := if staleB p s h then C p else 0
def B1 : Nat := (p.H - 1) * C p + p.m
def pend (h : Nat) : Nat := (p.n h - (s.rows h).k) * (p.H * C p) + (p.n h - (s.rows h).k - (if isSure (s.rows h) then 1 else 0)) * B1 p
noncomputable def phi (h : Nat) : Nat := base p s h + stale p s h + pend p s h
noncomputable def Phi : Nat := sumN p.H (phi p s)
end
section
variable {p : P} {s s' : S} {h : Nat}
theorem D_le {e x : Nat} : D p s e x ≤ p.m := by
  have h1 : D p s e x ≤ sumN p.m (fun _ => 1) := sum_le fun i _ => by split <;> omega
  rw [sum_const] at h1
  omega
theorem ht_le : ht p s h ≤ p.m * yy p s h * Wp p.m (yy p s h) := by
  refine Nat.mul_le_mul_right _ ?_
  have h1 : sumN p.H (fun x => if young (tks s) h x then D p s h x else 0) ≤ sumN p.H (fun x => (if young (tks s) h x then 1 else 0) * p.m) := sum_le fun i _ => by
    split
    · have := D_le (p := p) (s := s) (e := h) (x := i); omega
    · omega
  rw [sum_mul] at h1
  rw [Nat.mul_comm]
  exact h1
theorem yy_lt (hh : h < p.H) : yy p s h ≤ p.H - 1 := by have := yc_lt (tk := tks s) hh; unfold yy; omega
theorem W_le_C (hh : h < p.H) : W p.m (yy p s h) ≤ C p := Wp_mono (yy_lt hh)
theorem W_split (y : Nat) : W p.m y = 3 * p.m + 2 + p.m * Wp p.m y + p.m * y * Wp p.m y := by
  rw [W_eq]; unfold L
  rw [Nat.mul_add, Nat.mul_one, Nat.add_mul]; omega
theorem base_le (hh : h < p.H) : base p s h ≤ C p := by
  refine Nat.le_trans ?_ (W_le_C (p := p) (s := s) hh)
  have h1 := W_split (p := p) (yy p s h)
  have h2 := ht_le (p := p) (s := s) (h := h)
  have h3 : p.m * (1 + Wp p.m (yy p s h)) = p.m + p.m * Wp p.m (yy p s h) := by rw [Nat.mul_add, Nat.mul_one]
  unfold base
  split
  · exact Nat.le_refl _
  · omega
  · omega
  · rename_i d _
    have : (p.m - d) * (1 + Wp p.m (yy p s h)) ≤ p.m * (1 + Wp p.m (yy p s h)) := Nat.mul_le_mul_right _ (by omega)
    omega
  · omega
  · omega
/-- tickets unchanged -/
theorem young_same (e : ∀ i, i < p.H → (s'.rows i).tk = (s.rows i).tk) (hh : h < p.H) : ∀ x, x < p.H → young (tks s') h x = young (tks s) h x := fun x hx => by
  unfold young eld tks
  rw [e x hx, e h hh]
theorem yy_same (ey : ∀ x, x < p.H → young (tks s') h x = young (tks s) h x) : yy p s' h = yy p s h := by
  unfold yy yc
  refine Nat.le_antisymm (sum_le fun x hx => ?_) (sum_le fun x hx => ?_) <;> rw [ey x hx] <;> exact Nat.le_refl _
theorem D_mono {e x : Nat} (k : ∀ c, c < p.m → (s.cells c).holder = some e → (s'.cells c).holder = some e) (r : ∀ c, c ∈ (s'.rows x).rs.map (·.1) → c ∈ (s.rows x).rs.map (·.1) ∨ (c < p.m → (s.cells c).holder ≠ some e)) : D p s' e x ≤ D p s e x := by
  refine sum_le fun c hc => ?_
  by_cases y : dd s' e x c = true
  · rw [if_pos y]
    have y2 : dd s e x c = true := by
      unfold dd at y ⊢
      simp only [Bool.not_and, Bool.not_not, Bool.or_eq_true, Bool.not_eq_true', decide_eq_false_iff_not, decide_eq_true_eq] at y ⊢
      rcases y with y | y
      · exact .inl fun z => y (k c hc z)
      · rcases r c y with z | z
        · exact .inr z
        · exact .inl (z hc)
    rw [if_pos y2]; exact Nat.le_refl _
  · rw [if_neg y]; exact Nat.zero_le _
theorem ht_mono (ey : ∀ x, x < p.H → young (tks s') h x = young (tks s) h x) (dm : ∀ x, x < p.H → x ≠ h → D p s' h x ≤ D p s h x) : ht p s' h ≤ ht p s h := by
  unfold ht
  rw [yy_same ey]
  refine Nat.mul_le_mul_right _ (sum_le fun x hx => ?_)
  rw [ey x hx]
  split
  · rename_i y
    refine dm x hx fun z => ?_
    rw [z, young_self] at y; cases y
  · exact Nat.le_refl _
theorem base_row (er : s'.rows h = s.rows h) (ey : yy p s' h = yy p s h) (eh : ht p s' h ≤ ht p s h) : base p s' h ≤ base p s h := by
  unfold base
  rw [er, ey]
  split <;> omega
theorem stale_mono (hr : ∀ r, (s'.rows h).sv = some r → (s.rows h).sv = some r) (hs : ∀ r, (s'.rows h).sv = some r → staleP p s' h r → staleP p s h r) : stale p s' h ≤ stale p s h := by
  unfold stale
  by_cases z : staleB p s' h
  · rw [if_pos z]
    obtain ⟨r, e, q⟩ := z
    rw [if_pos ⟨r, hr r e, hs r e q⟩]; exact Nat.le_refl _
  · rw [if_neg z]; exact Nat.zero_le _
theorem stale_le : stale p s h ≤ C p := by unfold stale; split <;> omega
theorem stale_no (e : (s.rows h).sv = none) : stale p s h = 0 := by
  unfold stale
  rw [if_neg]
  rintro ⟨r, q, _⟩
  rw [e] at q; cases q
theorem stale_yes {r : Int} (e : (s.rows h).sv = some r) (q : staleP p s h r) : stale p s h = C p := by
  unfold stale
  rw [if_pos ⟨r, e, q⟩]
theorem pend_row (ek : (s'.rows h).k = (s.rows h).k) (es : isSure (s'.rows h) = isSure (s.rows h)) : pend p s' h = pend p s h := by
  unfold pend; rw [ek, es]
theorem pend_less (ek : (s'.rows h).k = (s.rows h).k) (es : isSure (s'.rows h) = true → isSure (s.rows h) = true) (es2 : isSure (s.rows h) = true → isSure (s'.rows h) = true) : pend p s' h = pend p s h := by
  refine pend_row ek ?_
  cases e1 : isSure (s'.rows h) <;> cases e2 : isSure (s.rows h) <;> simp_all
/-- another one, whose row is as it was -/
theorem phi_same (ey : ∀ x, x < p.H → young (tks s') h x = young (tks s) h x) (er : s'.rows h = s.rows h)
    (k : ∀ c, c < p.m → (s.cells c).holder = some h → (s'.cells c).holder = some h)
    (r : ∀ x, x < p.H → x ≠ h → ∀ c, c ∈ (s'.rows x).rs.map (·.1) → c ∈ (s.rows x).rs.map (·.1) ∨ (c < p.m → (s.cells c).holder ≠ some h))
    (st : ∀ v, (s.rows h).sv = some v → staleP p s' h v → staleP p s h v) : phi p s' h ≤ phi p s h := by
  have h1 : base p s' h ≤ base p s h := base_row er (yy_same ey) (ht_mono ey fun x hx ne => D_mono k (r x hx ne))
  have h2 : stale p s' h ≤ stale p s h := stale_mono (fun v e => by rw [er] at e; exact e) fun v e => st v (by rw [er] at e; exact e)
  have h3 : pend p s' h = pend p s h := pend_row (by rw [er]) (by rw [er])
  unfold phi; omega
theorem staleP_row (ec : ∀ c, c < p.m → (s'.cells c).stamp = (s.cells c).stamp) (es : ∀ q, q < p.H → ∀ w, (s'.rows q).sure = some w → (s.rows q).sure = some w) {v : Int} (z : staleP p s' h v) : staleP p s h v := by
  rcases z with ⟨c, hc, q⟩ | ⟨q, w, hq, ne, e, gt⟩
  · exact .inl ⟨c, hc, by rw [← ec c hc]; exact q⟩
  · exact .inr ⟨q, w, hq, ne, es q hq w e, gt⟩
theorem Phi_fall {x : Nat} (hh : h < p.H) (oth : ∀ i, i < p.H → i ≠ h → phi p s' i ≤ phi p s i) (own : phi p s' h + x ≤ phi p s h) : Phi p s' + x ≤ Phi p s :=
  sum_lt hh oth own
/-- each other one may grow by C, the one pays -/
theorem Phi_pay {x : Nat} (hh : h < p.H) (oth : ∀ i, i < p.H → i ≠ h → phi p s' i ≤ phi p s i + C p) (own : phi p s' h + (p.H - 1) * C p + x ≤ phi p s h) : Phi p s' + x ≤ Phi p s := by
  have h1 : Phi p s' + ((p.H - 1) * C p + x) ≤ Phi p s + sumN p.H (fun i => if i = h then 0 else C p) := sum_pay hh oth (by omega)
  have h2 := sum_but (a := C p) hh
  have h3 : p.H * C p = (p.H - 1) * C p + C p := by
    obtain ⟨k, e⟩ : ∃ k, p.H = k + 1 := ⟨p.H - 1, by omega⟩
    rw [e, Nat.add_mul, Nat.add_sub_cancel]; omega
  omega
end
end K70
namespace K70
section
variable {p : P} {s s' : S} {h : Nat}
theorem HC (hh : h < p.H) : p.H * C p = (p.H - 1) * C p + C p := by
  obtain ⟨k, e⟩ : ∃ k, p.H = k + 1 := ⟨p.H - 1, by omega⟩
  rw [e, Nat.add_mul, Nat.add_sub_cancel]; omega
theorem young_iff {tk : Nat → Option Int} {h x : Nat} : young tk h x = true ↔ x ≠ h ∧ ∀ t, tk x = some t → ∃ u, tk h = some u ∧ u ≤ t := by
  unfold young eld
  cases e1 : tk x with
  | none => simp
  | some t =>
    cases e2 : tk h with
    | none => simp
    | some u => simp
theorem bool_iff {a b : Bool} (h : a = true ↔ b = true) : a = b := by cases a <;> cases b <;> simp_all
/-- only the row of h is new, cells as they were -/
theorem phi_else {ρ : Row} (et : ρ.tk = (s.rows h).tk) (er : ∀ c, c ∈ ρ.rs.map (·.1) → c ∈ (s.rows h).rs.map (·.1) ∨ (∀ i, i ≠ h → c < p.m → (s.cells c).holder ≠ some i))
    (e0 : s'.rows = upd s.rows h ρ) (kc : ∀ i, i ≠ h → ∀ c, c < p.m → (s.cells c).holder = some i → (s'.cells c).holder = some i) (ks : ∀ c, c < p.m → (s'.cells c).stamp = (s.cells c).stamp)
    (es : ρ.sure = none ∨ ρ.sure = (s.rows h).sure) {i : Nat} (hi : i < p.H) (ne : i ≠ h) : phi p s' i ≤ phi p s i := by
  have et' : ∀ i, i < p.H → (s'.rows i).tk = (s.rows i).tk := fun j _ => by
    rw [e0]
    by_cases z : j = h
    · subst z; rw [upd_same, et]
    · rw [upd_ne z]
  refine phi_same (young_same et' hi) (by rw [e0, upd_ne ne]) (kc i ne) (fun x hx nx c hc => ?_) fun v _ z => staleP_row ks (fun q hq w e => ?_) z
  · rw [e0] at hc
    by_cases z : x = h
    · subst z
      rw [upd_same] at hc
      rcases er c hc with y | y
      · exact .inl y
      · exact .inr (y i ne)
    · rw [upd_ne z] at hc; exact .inl hc
  · rw [e0] at e
    by_cases z : q = h
    · subst z
      rw [upd_same] at e
      rcases es with y | y <;> rw [y] at e
      · cases e
      · exact e
    · rw [upd_ne z] at e; exact e
theorem tk_upd {ρ : Row} (et : ρ.tk = (s.rows h).tk) (e0 : s'.rows = upd s.rows h ρ) : ∀ i, i < p.H → (s'.rows i).tk = (s.rows i).tk := fun j _ => by
  rw [e0]
  by_cases z : j = h
  · subst z; rw [upd_same, et]
  · rw [upd_ne z]
theorem stale_upd {ρ : Row} (e0 : s'.rows = upd s.rows h ρ) (er : ρ.sv = (s.rows h).sv) (ks : ∀ c, c < p.m → (s'.cells c).stamp = (s.cells c).stamp) : stale p s' h ≤ stale p s h := by
  refine stale_mono (fun r e => ?_) fun r e z => ?_
  · rw [e0, upd_same, er] at e; exact e
  · rcases z with ⟨c, hc, q⟩ | ⟨q, w, hq, ne, e, gt⟩
    · exact .inl ⟨c, hc, by rw [← ks c hc]; exact q⟩
    · rw [e0, upd_ne ne] at e
      exact .inr ⟨q, w, hq, ne, e, gt⟩
theorem pend_upd {ρ : Row} (e0 : s'.rows = upd s.rows h ρ) (ek : ρ.k = (s.rows h).k) (es : isSure ρ = isSure (s.rows h)) : pend p s' h = pend p s h :=
  pend_row (by rw [e0, upd_same, ek]) (by rw [e0, upd_same, es])
theorem D_rows {e x : Nat} (k : ∀ c, c < p.m → (s.cells c).holder = some e → (s'.cells c).holder = some e) (r : s'.rows x = s.rows x) : D p s' e x ≤ D p s e x :=
  D_mono k fun c hc => .inl (by rw [r] at hc; exact hc)
/-- the hand itself: its heldterm does not grow -/
theorem ht_own {ρ : Row} (et : ρ.tk = (s.rows h).tk) (e0 : s'.rows = upd s.rows h ρ) (k : ∀ c, c < p.m → (s.cells c).holder = some h → (s'.cells c).holder = some h) (hh : h < p.H) : ht p s' h ≤ ht p s h ∧ yy p s' h = yy p s h :=
  ⟨ht_mono (young_same (tk_upd et e0) hh) fun x hx ne => D_rows k (by rw [e0, upd_ne ne]), yy_same (young_same (tk_upd et e0) hh)⟩
theorem begin_fall (I : Inv p s) (hh : h < p.H) {k : Nat} {tk : Option Int} (e0 : s.rows h = .new k tk) :
    Phi p { s with tickets := if tk = none then s.tickets + 1 else s.tickets, rows := upd s.rows h (.walks k (tk.getD s.tickets) s.clock []) } + 1 ≤ Phi p s := by
  generalize e1 : ({ s with tickets := if tk = none then s.tickets + 1 else s.tickets, rows := upd s.rows h (.walks k (tk.getD s.tickets) s.clock []) } : S) = s'
  have er : s'.rows = upd s.rows h (.walks k (tk.getD s.tickets) s.clock []) := by rw [← e1]
  have ec : s'.cells = s.cells := by rw [← e1]
  have tkh : tks s' h = some (tk.getD s.tickets) := by show (s'.rows h).tk = _; rw [er, upd_same]; rfl
  have tkh0 : tks s h = tk := by show (s.rows h).tk = _; rw [e0]; rfl
  have tko : ∀ i, i ≠ h → tks s' i = tks s i := fun i ne => by show (s'.rows i).tk = _; rw [er, upd_ne ne]; rfl
  have lt : ∀ i, i < p.H → ∀ t, tks s i = some t → t < s.tickets := fun i hi t e => I.tkLt i hi t e
  -- who is young for h, and for one with a ticket, is as before
  have yh : ∀ x, x < p.H → young (tks s') h x = young (tks s) h x := fun x hx => bool_iff (by
    rw [young_iff, young_iff, tkh, tkh0]
    refine and_congr_right fun ne => ?_
    rw [tko x ne]
    refine forall_congr' fun t => imp_congr_right fun e => ?_
    cases tk with
    | none =>
      have := lt x hx t e
      constructor
      · rintro ⟨u, q, le⟩; cases q; simp at le; omega
      · rintro ⟨u, q, _⟩; cases q
    | some t0 => exact Iff.rfl)
  refine Phi_fall hh (fun i hi ne => ?_) ?_
  · by_cases ti : ∃ u, tks s i = some u
    · obtain ⟨u, hu⟩ := ti
      have yi : ∀ x, x < p.H → young (tks s') i x = young (tks s) i x := fun x hx => bool_iff (by
        rw [young_iff, young_iff, tko i ne, hu]
        refine and_congr_right fun nx => ?_
        by_cases z : x = h
        · subst z
          rw [tkh, tkh0]
          have := lt i hi u hu
          cases tk with
          | none => simp; omega
          | some t0 => exact Iff.rfl
        · rw [tko x z])
      refine phi_same yi (by rw [er, upd_ne ne]) (fun c _ e => by rw [ec]; exact e) (fun x hx nx c hc => ?_) fun v _ z => staleP_row (fun c _ => by rw [ec]) (fun q hq w e => ?_) z
      · rw [er] at hc
        by_cases z : x = h
        · subst z; rw [upd_same] at hc; simp [Row.rs] at hc
        · rw [upd_ne z] at hc; exact .inl hc
      · rw [er] at e
        by_cases z : q = h
        · subst z; rw [upd_same] at e; cases e
        · rw [upd_ne z] at e; exact e
    · have tn : (s.rows i).tk = none := by
        cases e : (s.rows i).tk with
        | none => rfl
        | some u => exact absurd ⟨u, e⟩ ti
      have eri : s'.rows i = s.rows i := by rw [er, upd_ne ne]
      have ey : yy p s' i ≤ yy p s i := sum_le fun x hx => by
        by_cases y : young (tks s') i x = true
        · rw [if_pos y]
          have y2 : young (tks s) i x = true := by
            rw [young_iff] at y ⊢
            refine ⟨y.1, fun t e => ?_⟩
            by_cases z : x = h
            · subst z
              obtain ⟨u, q, _⟩ := y.2 _ tkh
              rw [tko i ne] at q
              exact absurd ⟨u, q⟩ ti
            · obtain ⟨u, q, _⟩ := y.2 t (by rw [tko x z]; exact e)
              rw [tko i ne] at q
              exact absurd ⟨u, q⟩ ti
          rw [if_pos y2]; exact Nat.le_refl _
        · rw [if_neg y]; exact Nat.zero_le _
      have hb : base p s' i ≤ base p s i := by
        unfold base
        rw [eri]
        cases eq : s.rows i with
        | new k tk => exact Wp_mono ey
        | through k => exact Nat.le_refl _
        | _ => rw [eq] at tn; cases tn
      have hs : stale p s' i ≤ stale p s i := stale_mono (fun r e => by rw [eri] at e; exact e) fun v _ z => staleP_row (fun c _ => by rw [ec]) (fun q hq w e => by
        rw [er] at e
        by_cases z : q = h
        · subst z; rw [upd_same] at e; cases e
        · rw [upd_ne z] at e; exact e) z
      have hp : pend p s' i = pend p s i := pend_row (by rw [eri]) (by rw [eri])
      unfold phi; omega
  · have ey := yy_same yh
    have hb : base p s h = W p.m (yy p s h) := by unfold base; rw [e0]
    have hb' : base p s' h = (p.m - 0) + p.m + 1 + p.m * (1 + Wp p.m (yy p s h)) + ht p s' h := by unfold base; rw [er, upd_same, ey]; rfl
    have hht := ht_le (p := p) (s := s') (h := h)
    rw [ey] at hht
    have hw := W_split (p := p) (yy p s h)
    have h3 : p.m * (1 + Wp p.m (yy p s h)) = p.m + p.m * Wp p.m (yy p s h) := by rw [Nat.mul_add, Nat.mul_one]
    have hs : stale p s' h = 0 := by
      unfold stale
      rw [if_neg]
      rintro ⟨r, e, z⟩
      rw [er, upd_same] at e
      cases e
      rcases z with ⟨c, hc, q⟩ | ⟨q, w, hq, ne, e, gt⟩
      · have := I.stLe c hc
        rw [ec] at q
        omega
      · rw [er, upd_ne ne] at e
        have := I.wvLe q hq w (Row.sure_wv e)
        omega
    have hp : pend p s' h = pend p s h := pend_row (by rw [er, upd_same, e0]; rfl) (by rw [er, upd_same, e0]; rfl)
    unfold phi
    omega
/-- giving up, the others -/
theorem giveUp_oth (I : Inv p s) (hh : h < p.H) (nt : ∀ k, s.rows h ≠ .through k) {i : Nat} (hi : i < p.H) (ne : i ≠ h) : phi p (giveUp p s h) i ≤ phi p s i := by
  have hk : (s.rows h).k < p.n h := (I.row h hh).lt nt
  refine phi_else (ρ := .new (s.rows h).k (s.rows h).tk) rfl (fun c hc => by simp [Row.rs] at hc) (by show upd _ _ _ = _; rw [rowNew_lt hk]) (fun i ni c _ e => ?_) (fun c _ => ?_) (.inl rfl) hi ne
  · show (free h (s.cells c)).holder = some i
    exact free_holder.mpr ⟨e, ni⟩
  · show (free h (s.cells c)).stamp = _
    exact free_stamp
theorem giveUp_yy (I : Inv p s) (hh : h < p.H) (nt : ∀ k, s.rows h ≠ .through k) {i : Nat} (hi : i < p.H) : yy p (giveUp p s h) i = yy p s i := by
  have hk : (s.rows h).k < p.n h := (I.row h hh).lt nt
  exact yy_same (young_same (tk_upd (ρ := .new (s.rows h).k (s.rows h).tk) (h := h) rfl (by show upd _ _ _ = _; rw [rowNew_lt hk])) hi)
theorem giveUp_own (I : Inv p s) (hh : h < p.H) (nt : ∀ k, s.rows h ≠ .through k) (ns : (s.rows h).sure = none) : phi p (giveUp p s h) h + base p s h + stale p s h = W p.m (yy p s h) + phi p s h := by
  have hk : (s.rows h).k < p.n h := (I.row h hh).lt nt
  have e0 : (giveUp p s h).rows = upd s.rows h (.new (s.rows h).k (s.rows h).tk) := by show upd _ _ _ = _; rw [rowNew_lt hk]
  have h1 : base p (giveUp p s h) h = W p.m (yy p s h) := by unfold base; rw [giveUp_yy I hh nt hh, e0, upd_same]
  have h2 : stale p (giveUp p s h) h = 0 := stale_no (by rw [e0, upd_same]; rfl)
  have h3 : pend p (giveUp p s h) h = pend p s h := pend_upd e0 rfl (by show false = _; unfold isSure; rw [ns]; rfl)
  unfold phi
  omega
theorem giveUp_stale (I : Inv p s) (hh : h < p.H) (nt : ∀ k, s.rows h ≠ .through k) (ns : (s.rows h).sure = none) (hb : 1 ≤ base p s h) {r : Int} (er : (s.rows h).sv = some r) (z : staleP p s h r) : Phi p (giveUp p s h) + 1 ≤ Phi p s := by
  refine Phi_fall hh (fun i hi ne => giveUp_oth I hh nt hi ne) ?_
  have h1 := giveUp_own I hh nt ns
  have h2 := stale_yes er z
  have h3 := W_le_C (p := p) (s := s) hh
  omega
/-- pushed out -/
theorem giveUp_grow (I : Inv p s) (hh : h < p.H) (nt : ∀ k, s.rows h ≠ .through k) (ns : (s.rows h).sure = none) : Phi p (giveUp p s h) ≤ Phi p s + W p.m (yy p s h) := by
  have h1 := giveUp_own I hh nt ns
  have h2 : Phi p (giveUp p s h) + 0 ≤ sumN p.H (fun i => phi p s i + (if i = h then W p.m (yy p s h) else 0)) :=
    sum_lt hh (fun i hi ne => by rw [if_neg ne]; exact giveUp_oth I hh nt hi ne) (by rw [if_pos rfl]; omega)
  rw [sum_add, sum_at hh] at h2
  exact h2
/-- held by an elder one that is not sure -/
theorem giveUp_held (I : Inv p s) (hh : h < p.H) (nt : ∀ k, s.rows h ≠ .through k) (ns : (s.rows h).sure = none) (hb : 1 ≤ base p s h) {e c : Nat} (he : e < p.H) (ne : e ≠ h)
    {te th : Int} (et : (s.rows e).tk = some te) (eh : (s.rows h).tk = some th) (lt : te < th) (hc : c < p.m) (hold : (s.cells c).holder = some e) (hr : c ∈ (s.rows h).rs.map (·.1)) (se : (s.rows e).sure = none) (hld : c ∈ (s.rows e).held) : Phi p (giveUp p s h) + 1 ≤ Phi p s := by
  have hk : (s.rows h).k < p.n h := (I.row h hh).lt nt
  have e0 : (giveUp p s h).rows = upd s.rows h (.new (s.rows h).k (s.rows h).tk) := by show upd _ _ _ = _; rw [rowNew_lt hk]
  have ere : (giveUp p s h).rows e = s.rows e := by rw [e0, upd_ne ne]
  have h1 := giveUp_own I hh nt ns
  have h2 := W_pos p.m (yy p s h)
  have y1 : yy p s h + 1 ≤ yy p s e := yc_elder (tk := tks s) hh et eh lt
  have hW : W p.m (yy p s h) ≤ Wp p.m (yy p s e) := W_le_Wp y1
  have tkE := tk_upd (p := p) (s' := giveUp p s h) (ρ := .new (s.rows h).k (s.rows h).tk) (h := h) rfl e0
  have keep : ∀ c, c < p.m → (s.cells c).holder = some e → ((giveUp p s h).cells c).holder = some e := fun c _ q => free_holder.mpr ⟨q, ne⟩
  -- the heldterm of e falls
  have hD : D p (giveUp p s h) e h + 1 ≤ D p s e h := by
    refine sum_lt (j := c) hc (fun c' hc' _ => ?_) ?_
    · by_cases y : dd (giveUp p s h) e h c' = true
      · rw [if_pos y]
        have y2 : dd s e h c' = true := by
          unfold dd at y ⊢
          simp only [Bool.not_and, Bool.not_not, Bool.or_eq_true, Bool.not_eq_true', decide_eq_false_iff_not, decide_eq_true_eq] at y ⊢
          rcases y with y | y
          · exact .inl fun z => y (keep c' hc' z)
          · rw [e0, upd_same] at y; simp [Row.rs] at y
        rw [if_pos y2]; exact Nat.le_refl _
      · rw [if_neg y]; exact Nat.zero_le _
    · have y1 : dd s e h c = true := by unfold dd; simp [hold, hr]
      have y2 : dd (giveUp p s h) e h c = false := by
        unfold dd
        rw [keep c hc hold, e0, upd_same]
        simp [Row.rs]
      rw [y1, y2]; simp
  have hht : ht p (giveUp p s h) e + Wp p.m (yy p s e) ≤ ht p s e := by
    unfold ht
    rw [giveUp_yy I hh nt he, ← Nat.succ_mul]
    refine Nat.mul_le_mul_right _ ?_
    refine sum_lt (j := h) (x := 1) hh (fun x hx nx => ?_) ?_
    · rw [young_same tkE he x hx]
      split
      · exact D_rows keep (by rw [e0, upd_ne nx])
      · exact Nat.le_refl _
    · have yh : young (tks s) e h = true := by
        rw [young_iff]
        refine ⟨Ne.symm ne, fun t q => ⟨te, et, ?_⟩⟩
        have : some th = some t := eh.symm.trans q
        cases this; omega
      rw [young_same tkE he h hh, if_pos yh, if_pos yh]
      exact hD
  have hbe : base p (giveUp p s h) e + Wp p.m (yy p s e) ≤ base p s e := by
    unfold base
    rw [ere, giveUp_yy I hh nt he]
    cases eq : s.rows e with
    | locks k t r rs ws d => simp only; omega
    | checks k t r w rs ws d => simp only; omega
    | backs k t r w rs ws d => rw [eq] at se; cases se
    | _ => rw [eq] at hld; simp [Row.held] at hld
  have hse : stale p (giveUp p s h) e ≤ stale p s e := stale_mono (fun r q => by rw [ere] at q; exact q) fun v _ z => staleP_row (fun c _ => free_stamp) (fun q hq w y => by
    rw [e0] at y
    by_cases z : q = h
    · subst z; rw [upd_same] at y; cases y
    · rw [upd_ne z] at y; exact y) z
  have hpe : pend p (giveUp p s h) e = pend p s e := pend_row (by rw [ere]) (by rw [ere])
  have hphe : phi p (giveUp p s h) e + W p.m (yy p s h) ≤ phi p s e := by unfold phi; omega
  have fin : Phi p (giveUp p s h) + W p.m (yy p s h) ≤ Phi p s + sumN p.H (fun i => if i = e then 0 else if i = h then W p.m (yy p s h) - 1 else 0) :=
    sum_pay (a := fun i => if i = h then W p.m (yy p s h) - 1 else 0) he (fun i hi ni => by
      by_cases z : i = h
      · subst z; rw [if_pos rfl]; omega
      · rw [if_neg z]; have := giveUp_oth I hh nt hi z; omega) hphe
  have sm : sumN p.H (fun i => if i = e then 0 else if i = h then W p.m (yy p s h) - 1 else 0) ≤ W p.m (yy p s h) - 1 := by
    refine Nat.le_trans (sum_le (g := fun i => if i = h then W p.m (yy p s h) - 1 else 0) fun i _ => ?_) (Nat.le_of_eq (sum_at hh))
    by_cases z : i = e
    · rw [if_pos z]; exact Nat.zero_le _
    · rw [if_neg z]; exact Nat.le_refl _
  omega
end
end K70
namespace K70
section
variable {p : P} {s s' : S} {h : Nat}
theorem rowNew_sv {n k : Nat} {tk : Option Int} : (rowNew n k tk).sv = none := by unfold rowNew; split <;> rfl
theorem read_fall (ok : POk p) (I : Inv p s) (hh : h < p.H) {k : Nat} {t r : Int} {rs : RL} {c : Nat} (e0 : s.rows h = .walks k t r rs)
    (hg : p.g h k rs = .reads c) (hn : (s.cells c).holder = none) : Phi p { s with rows := upd s.rows h (.walks k t r (ins (c, (s.cells c).num) rs)) } + 1 ≤ Phi p s := by
  have I' := read_inv ok I hh e0 hg hn
  generalize e1 : ({ s with rows := upd s.rows h (.walks k t r (ins (c, (s.cells c).num) rs)) } : S) = s' at I' ⊢
  have er : s'.rows = upd s.rows h (.walks k t r (ins (c, (s.cells c).num) rs)) := by rw [← e1]
  have ec : s'.cells = s.cells := by rw [← e1]
  have et : (Row.walks k t r (ins (c, (s.cells c).num) rs)).tk = (s.rows h).tk := by rw [e0]; rfl
  refine Phi_fall hh (fun i hi ne => ?_) ?_
  · refine phi_else et (fun c' hc' => ?_) er (fun i _ c _ q => by rw [ec]; exact q) (fun c _ => by rw [ec]) (.inl rfl) hi ne
    obtain ⟨x, hx, ex⟩ := List.mem_map.mp hc'
    rcases mem_ins.mp hx with z | z
    · refine .inr fun j _ _ q => ?_
      rw [← ex, z] at q
      rw [hn] at q; cases q
    · left; rw [e0]; exact List.mem_map.mpr ⟨x, z, ex⟩
  · obtain ⟨h1, h2⟩ := ht_own (p := p) et er (fun c _ q => by rw [ec]; exact q) hh
    have hl := (I'.rsOk h hh).len
    rw [er, upd_same] at hl
    simp only [Row.rs, len_ins] at hl
    have hb : base p s h = (p.m - rs.length) + p.m + 1 + p.m * (1 + Wp p.m (yy p s h)) + ht p s h := by unfold base; rw [e0]
    have hb' : base p s' h = (p.m - (rs.length + 1)) + p.m + 1 + p.m * (1 + Wp p.m (yy p s h)) + ht p s' h := by unfold base; rw [er, upd_same]; simp only; rw [h2, len_ins]
    have hs := stale_upd (p := p) er (by rw [e0]; rfl) (fun c _ => by rw [ec])
    have hp := pend_upd (p := p) er (by rw [e0]; rfl) (by rw [e0]; rfl)
    unfold phi; omega
theorem sleep_fall (hh : h < p.H) {k : Nat} {t r : Int} {rs : RL} (e0 : s.rows h = .walks k t r rs) : Phi p { s with rows := upd s.rows h (.sleeps k t r rs) } + 1 ≤ Phi p s := by
  generalize e1 : ({ s with rows := upd s.rows h (.sleeps k t r rs) } : S) = s'
  have er : s'.rows = upd s.rows h (.sleeps k t r rs) := by rw [← e1]
  have ec : s'.cells = s.cells := by rw [← e1]
  have et : (Row.sleeps k t r rs).tk = (s.rows h).tk := by rw [e0]; rfl
  refine Phi_fall hh (fun i hi ne => ?_) ?_
  · refine phi_else et (fun c' hc' => .inl (by rw [e0]; exact hc')) er (fun i _ c _ q => by rw [ec]; exact q) (fun c _ => by rw [ec]) (.inl rfl) hi ne
  · have hb : 1 ≤ base p s h := by unfold base; rw [e0]; simp only; omega
    have hb' : base p s' h = 0 := by unfold base; rw [er, upd_same]
    have hs := stale_upd (p := p) er (by rw [e0]; rfl) (fun c _ => by rw [ec])
    have hp := pend_upd (p := p) er (by rw [e0]; rfl) (by rw [e0]; rfl)
    unfold phi; omega
theorem done_fall (I : Inv p s) (hh : h < p.H) (nt : ∀ k, s.rows h ≠ .through k) (ns : (s.rows h).sure = none) (hb : 1 ≤ base p s h) : Phi p (doneWith p s h) + 1 ≤ Phi p s := by
  have hk : (s.rows h).k < p.n h := (I.row h hh).lt nt
  have er : (doneWith p s h).rows h = rowNew (p.n h) ((s.rows h).k + 1) none := upd_same
  have eo : ∀ i, i ≠ h → (doneWith p s h).rows i = s.rows i := fun i hi => upd_ne hi
  refine Phi_pay hh (fun i hi ne => ?_) ?_
  · have h1 := base_le (p := p) (s := doneWith p s h) hi
    have h2 : stale p (doneWith p s h) i ≤ stale p s i := stale_mono (fun r e => by rw [eo i ne] at e; exact e) fun v _ zz => staleP_row (s := s) (s' := doneWith p s h) (fun c _ => rfl) (fun q hq w e => by
      by_cases z : q = h
      · subst z; rw [er, rowNew_sure] at e; cases e
      · rw [eo q z] at e; exact e) zz
    have h3 : pend p (doneWith p s h) i = pend p s i := pend_row (by rw [eo i ne]) (by rw [eo i ne])
    unfold phi; omega
  · have h1 := base_le (p := p) (s := doneWith p s h) hh
    have h2 : stale p (doneWith p s h) h = 0 := stale_no (by rw [er, rowNew_sv])
    have ek : ((doneWith p s h).rows h).k = (s.rows h).k + 1 := by rw [er]; unfold rowNew; split <;> rfl
    have es : isSure ((doneWith p s h).rows h) = false := by unfold isSure; rw [er, rowNew_sure]; rfl
    have es0 : isSure (s.rows h) = false := by unfold isSure; rw [ns]; rfl
    have h3 : pend p (doneWith p s h) h + (p.H * C p + B1 p) = pend p s h := by
      unfold pend
      rw [ek, es, es0]
      simp only [Bool.false_eq_true, if_false, Nat.sub_zero]
      obtain ⟨z, ez⟩ : ∃ z, p.n h - (s.rows h).k = z + 1 := ⟨p.n h - (s.rows h).k - 1, by omega⟩
      have ez' : p.n h - ((s.rows h).k + 1) = z := by omega
      rw [ez, ez', Nat.add_mul, Nat.add_mul]; omega
    have h4 := HC (p := p) hh
    unfold phi; omega
theorem lock_fall (ok : POk p) (hh : h < p.H) {k : Nat} {t r : Int} {rs ws : RL} {d : Nat} {q : Nat × Int}
    (hg : p.g h k rs = .ended ws) (e0 : s.rows h = .locks k t r rs ws d ∨ (s.rows h = .walks k t r rs ∧ d = 0))
    (hq : ws[d]? = some q) (hn : (s.cells q.1).holder = none) :
    Phi p { s with cells := upd s.cells q.1 { (s.cells q.1) with holder := some h }, rows := upd s.rows h (.locks k t r rs ws (d + 1)) } + 1 ≤ Phi p s := by
  generalize e1 : ({ s with cells := upd s.cells q.1 { (s.cells q.1) with holder := some h }, rows := upd s.rows h (.locks k t r rs ws (d + 1)) } : S) = s'
  have er : s'.rows = upd s.rows h (.locks k t r rs ws (d + 1)) := by rw [← e1]
  have ec : s'.cells = upd s.cells q.1 { (s.cells q.1) with holder := some h } := by rw [← e1]
  have hd : d < ws.length := (List.getElem?_eq_some_iff.mp hq).1
  have hwl := (ok.en _ _ _ _ hg).len
  have kc : ∀ i, ∀ c, c < p.m → (s.cells c).holder = some i → (s'.cells c).holder = some i := fun i c _ e => by
    rw [ec]
    by_cases z : c = q.1
    · subst z; rw [hn] at e; cases e
    · rw [upd_ne z]; exact e
  have ks : ∀ c, c < p.m → (s'.cells c).stamp = (s.cells c).stamp := fun c _ => by
    rw [ec]
    by_cases z : c = q.1
    · subst z; rw [upd_same]
    · rw [upd_ne z]
  have hr0 : (s.rows h).tk = some t ∧ (s.rows h).rs = rs ∧ (s.rows h).sv = some r ∧ (s.rows h).k = k ∧ isSure (s.rows h) = false := by
    rcases e0 with e | ⟨e, _⟩ <;> rw [e] <;> exact ⟨rfl, rfl, rfl, rfl, rfl⟩
  obtain ⟨f1, f2, f3, f4, f5⟩ := hr0
  refine Phi_fall hh (fun i hi ne => ?_) ?_
  · refine phi_else (by rw [f1]; rfl) (fun c' hc' => .inl (by rw [f2]; exact hc')) er (fun i _ => kc i) ks (.inl rfl) hi ne
  · obtain ⟨h1, h2⟩ := ht_own (p := p) (ρ := .locks k t r rs ws (d + 1)) (by rw [f1]; rfl) er (kc h) hh
    have hb : (p.m - d) + 1 + p.m * (1 + Wp p.m (yy p s h)) + ht p s h ≤ base p s h := by
      unfold base
      rcases e0 with e | ⟨e, _⟩ <;> rw [e] <;> simp only <;> omega
    have hb' : base p s' h = (p.m - (d + 1)) + 1 + p.m * (1 + Wp p.m (yy p s h)) + ht p s' h := by unfold base; rw [er, upd_same]; simp only; rw [h2]
    have hs := stale_upd (p := p) er (by rw [f3]; rfl) ks
    have hp := pend_upd (p := p) er (by rw [f4]; rfl) (by rw [f5]; rfl)
    unfold phi; omega
/-- one comes to be sure -/
theorem sure_fall {x : Nat} (I : Inv p s) (hh : h < p.H) {ρ : Row} (hk : (s.rows h).k < p.n h) (ec : s'.cells = s.cells) (er : s'.rows = upd s.rows h ρ) (et : ρ.tk = (s.rows h).tk) (ek : ρ.k = (s.rows h).k)
    (erv : ρ.sv = none) (ers : ρ.rs = (s.rows h).rs) (ns : (s.rows h).sure = none) (es : isSure ρ = true) (hb' : base p s' h ≤ p.m) (hb : x ≤ base p s h) : Phi p s' + x ≤ Phi p s := by
  refine Phi_pay hh (fun i hi ne => ?_) ?_
  · have eri : s'.rows i = s.rows i := by rw [er, upd_ne ne]
    have ey := young_same (tk_upd (p := p) et er) hi
    have h1 : base p s' i ≤ base p s i := base_row eri (yy_same ey) (ht_mono ey fun y hy ny => D_mono (fun c _ q => by rw [ec]; exact q) fun c hc => .inl (by
      rw [er] at hc
      by_cases z : y = h
      · subst z; rw [upd_same, ers] at hc; exact hc
      · rw [upd_ne z] at hc; exact hc))
    have h2 := stale_le (p := p) (s := s') (h := i)
    have h3 : pend p s' i = pend p s i := pend_row (by rw [eri]) (by rw [eri])
    unfold phi; omega
  · have hs : stale p s' h = 0 := stale_no (by rw [er, upd_same, erv])
    have es0 : isSure (s.rows h) = false := by unfold isSure; rw [ns]; rfl
    have hp : pend p s' h + B1 p = pend p s h := by
      unfold pend
      rw [er, upd_same, ek, es, es0]
      simp only [Bool.false_eq_true, if_false, if_true, Nat.sub_zero]
      obtain ⟨z, ez⟩ : ∃ z, p.n h - (s.rows h).k = z + 1 := ⟨p.n h - (s.rows h).k - 1, by omega⟩
      rw [ez, Nat.add_sub_cancel, Nat.add_mul z 1 (B1 p)]; omega
    have hB : B1 p = (p.H - 1) * C p + p.m := rfl
    unfold phi; omega
theorem clock_fall (I : Inv p s) (hh : h < p.H) {k : Nat} {t r : Int} {rs ws : RL} {d : Nat} (e0 : s.rows h = .locks k t r rs ws d) :
    Phi p { s with clock := s.clock + 1, rows := upd s.rows h (if rs = [] then .backs k t r (s.clock + 1) rs ws 0 else .checks k t r (s.clock + 1) rs ws 0) } + 1 ≤ Phi p s := by
  have hk : (s.rows h).k < p.n h := (I.row h hh).lt fun k e => by rw [e0] at e; cases e
  by_cases z : rs = []
  · rw [if_pos z]
    refine sure_fall (ρ := .backs k t r (s.clock + 1) rs ws 0) I hh hk rfl rfl (by rw [e0]; rfl) (by rw [e0]; rfl) rfl (by rw [e0]; rfl) (by rw [e0]; rfl) rfl ?_ ?_
    · unfold base; simp only [upd_same]; omega
    · unfold base; rw [e0]; simp only; omega
  · rw [if_neg z]
    generalize e1 : ({ s with clock := s.clock + 1, rows := upd s.rows h (.checks k t r (s.clock + 1) rs ws 0) } : S) = s'
    have er : s'.rows = upd s.rows h (.checks k t r (s.clock + 1) rs ws 0) := by rw [← e1]
    have ec : s'.cells = s.cells := by rw [← e1]
    have et : (Row.checks k t r (s.clock + 1) rs ws 0).tk = (s.rows h).tk := by rw [e0]; rfl
    refine Phi_fall hh (fun i hi ne => ?_) ?_
    · refine phi_else et (fun c' hc' => .inl (by rw [e0]; exact hc')) er (fun i _ c _ q => by rw [ec]; exact q) (fun c _ => by rw [ec]) (.inl rfl) hi ne
    · obtain ⟨h1, h2⟩ := ht_own (p := p) et er (fun c _ q => by rw [ec]; exact q) hh
      have hb : base p s h = (p.m - d) + 1 + p.m * (1 + Wp p.m (yy p s h)) + ht p s h := by unfold base; rw [e0]
      have hb' : base p s' h = (p.m - 0) * (1 + Wp p.m (yy p s h)) + ht p s' h := by unfold base; rw [er, upd_same]; simp only; rw [h2]
      rw [Nat.sub_zero] at hb'
      have hs := stale_upd (p := p) er (by rw [e0]; rfl) (fun c _ => by rw [ec])
      have hp := pend_upd (p := p) er (by rw [e0]; rfl) (by rw [e0]; rfl)
      unfold phi; omega
theorem adv_fall (I : Inv p s) (hh : h < p.H) {k : Nat} {t r w : Int} {rs ws : RL} {d : Nat} (e0 : s.rows h = .checks k t r w rs ws d) : Phi p (adv s h k t r w rs ws d) + (1 + Wp p.m (yy p s h)) ≤ Phi p s := by
  have hk : (s.rows h).k < p.n h := (I.row h hh).lt fun k e => by rw [e0] at e; cases e
  have rw0 := I.row h hh
  rw [e0] at rw0
  have hd := rw0.2.2.1
  have hl := (I.rsOk h hh).len
  rw [e0] at hl
  have hl : rs.length ≤ p.m := hl
  have hm : (p.m - d) * (1 + Wp p.m (yy p s h)) = (p.m - (d + 1)) * (1 + Wp p.m (yy p s h)) + (1 + Wp p.m (yy p s h)) := by
    obtain ⟨z, ez⟩ : ∃ z, p.m - d = z + 1 := ⟨p.m - d - 1, by omega⟩
    have ez' : p.m - (d + 1) = z := by omega
    rw [ez, ez', Nat.add_mul]; omega
  have hb : base p s h = (p.m - d) * (1 + Wp p.m (yy p s h)) + ht p s h := by unfold base; rw [e0]
  unfold adv
  by_cases z : d + 1 = rs.length
  · rw [if_pos z]
    refine sure_fall (ρ := .backs k t r w rs ws 0) I hh hk rfl rfl (by rw [e0]; rfl) (by rw [e0]; rfl) rfl (by rw [e0]; rfl) (by rw [e0]; rfl) rfl ?_ ?_
    · unfold base; simp only [upd_same]; omega
    · omega
  · rw [if_neg z]
    generalize e1 : ({ s with rows := upd s.rows h (.checks k t r w rs ws (d + 1)) } : S) = s'
    have er : s'.rows = upd s.rows h (.checks k t r w rs ws (d + 1)) := by rw [← e1]
    have ec : s'.cells = s.cells := by rw [← e1]
    have et : (Row.checks k t r w rs ws (d + 1)).tk = (s.rows h).tk := by rw [e0]; rfl
    refine Phi_fall hh (fun i hi ne => ?_) ?_
    · refine phi_else et (fun c' hc' => .inl (by rw [e0]; exact hc')) er (fun i _ c _ q => by rw [ec]; exact q) (fun c _ => by rw [ec]) (.inl rfl) hi ne
    · obtain ⟨h1, h2⟩ := ht_own (p := p) et er (fun c _ q => by rw [ec]; exact q) hh
      have hb' : base p s' h = (p.m - (d + 1)) * (1 + Wp p.m (yy p s h)) + ht p s' h := by unfold base; rw [er, upd_same]; simp only; rw [h2]
      have hs := stale_upd (p := p) er (by rw [e0]; rfl) (fun c _ => by rw [ec])
      have hp := pend_upd (p := p) er (by rw [e0]; rfl) (by rw [e0]; rfl)
      unfold phi; omega
theorem wakes_row {n : Nat} {c : Nat} {r : Row} (h : wakes c r = true) : ∃ k t v rs, r = .sleeps k t v rs ∧ c ∈ rs.map (·.1) := wakes_new (n := n) h
theorem back_fall (ok : POk p) (I : Inv p s) (hh : h < p.H) {k : Nat} {t r w : Int} {rs ws : RL} {d : Nat} {q : Nat × Int} (e0 : s.rows h = .backs k t r w rs ws d) (hq : ws[d]? = some q) : Phi p (backS p s h k t r w rs ws d q) + 1 ≤ Phi p s := by
  have rw0 := I.row h hh
  rw [e0] at rw0
  have wok := ok.en _ _ _ _ rw0.2.1
  have hqm : q.1 < p.m := wok.lt q (List.mem_of_getElem? hq)
  have hwl := wok.len
  have hd := rw0.2.2
  have hrow := back_row (p := p) (s := s) (h := h) (k := k) (t := t) (r := r) (w := w) (rs := rs) (ws := ws) (d := d) (q := q)
  have hoth : ∀ i, i < p.H → i ≠ h → Sub (p.n i) ((backS p s h k t r w rs ws d q).rows i) (s.rows i) ∧ (wakes q.1 (s.rows i) = false → (backS p s h k t r w rs ws d q).rows i = s.rows i) := fun i hi ne => back_oth I hi ne
  have hwk : ∀ i, i < p.H → i ≠ h → wakes q.1 (s.rows i) = true → (backS p s h k t r w rs ws d q).rows i = .new (s.rows i).k (s.rows i).tk := fun i hi ne y => by
    have hki : (s.rows i).k < p.n i := (I.row i hi).lt fun k e => by rw [e] at y; cases y
    show (if i = h then _ else if wakes q.1 (s.rows i) then rowNew (p.n i) (s.rows i).k (s.rows i).tk else s.rows i) = _
    rw [if_neg ne, if_pos y, rowNew_lt hki]
  generalize eσ : backS p s h k t r w rs ws d q = σ at *
  have ec : ∀ c, σ.cells c = upd s.cells q.1 ⟨q.2, w, none⟩ c := fun c => by rw [← eσ]; rfl
  have hold : ∀ i, i ≠ h → ∀ c, c < p.m → (s.cells c).holder = some i → (σ.cells c).holder = some i := fun i ne c hc e => by
    rw [ec]
    by_cases z : c = q.1
    · subst z
      have : (s.cells q.1).holder = some h := (I.hold _ hc h).mpr ⟨hh, by rw [e0]; exact (mem_drop hq).mpr (.inl rfl)⟩
      rw [e] at this
      exact absurd (Option.some.inj this) ne
    · rw [upd_ne z]; exact e
  have hs0 : (s.rows h).sure = some w := by rw [e0]; rfl
  have stl : ∀ i, i ≠ h → ∀ v, staleP p σ i v → staleP p s i v := fun i ne v z => by
    rcases z with ⟨c, hc, x⟩ | ⟨y, w', hy, ny, e, gt⟩
    · rw [ec] at x
      by_cases z : c = q.1
      · subst z
        rw [upd_same] at x
        exact .inr ⟨h, w, hh, Ne.symm ne, hs0, x⟩
      · rw [upd_ne z] at x
        exact .inl ⟨c, hc, x⟩
    · by_cases z : y = h
      · subst z
        rw [hrow] at e
        split at e
        · rw [rowNew_sure] at e; cases e
        · cases e; exact .inr ⟨y, w, hh, ny, hs0, gt⟩
      · exact .inr ⟨y, w', hy, ny, (hoth y hy z).1.sure e, gt⟩
  have hb0 : base p s h = p.m - d := by unfold base; rw [e0]
  -- each woken one: it pays with what it is behind
  have wk : ∀ i, i < p.H → i ≠ h → wakes q.1 (s.rows i) = true → phi p σ i ≤ phi p s i := fun i hi ne y => by
    obtain ⟨k', t', v', rs', ei, mi⟩ := wakes_row (n := 0) y
    have old := I.old h i hh hi (Ne.symm ne) w (by rw [e0]; rfl) q.1 (by rw [e0]; exact (mem_drop hq).mpr (.inl rfl)) (by rw [ei]; exact mi) v' (by rw [ei]; rfl)
    have h1 : stale p s i = C p := stale_yes (r := v') (by rw [ei]; rfl) (.inr ⟨h, w, hh, Ne.symm ne, hs0, old⟩)
    have h2 : stale p σ i = 0 := stale_no (by rw [hwk i hi ne y]; rfl)
    have h3 := base_le (p := p) (s := σ) hi
    have h4 : pend p σ i = pend p s i := pend_row (by rw [hwk i hi ne y]; rfl) (by rw [hwk i hi ne y, ei]; rfl)
    unfold phi; omega
  by_cases z : d + 1 = ws.length
  · rw [if_pos z] at hrow
    refine Phi_pay hh (fun i hi ne => ?_) ?_
    · by_cases y : wakes q.1 (s.rows i) = true
      · have := wk i hi ne y; omega
      · have er := (hoth i hi ne).2 (by cases x : wakes q.1 (s.rows i) <;> simp_all)
        have h1 := base_le (p := p) (s := σ) hi
        have h2 : stale p σ i ≤ stale p s i := stale_mono (fun r e => by rw [er] at e; exact e) fun v _ => stl i ne v
        have h3 : pend p σ i = pend p s i := pend_row (by rw [er]) (by rw [er])
        unfold phi; omega
    · have h1 := base_le (p := p) (s := σ) hh
      have h2 : stale p σ h = 0 := stale_no (by rw [hrow, rowNew_sv])
      have ek : (σ.rows h).k = k + 1 := by rw [hrow]; unfold rowNew; split <;> rfl
      have es : isSure (σ.rows h) = false := by unfold isSure; rw [hrow, rowNew_sure]; rfl
      have h3 : pend p σ h + p.H * C p = pend p s h := by
        unfold pend
        rw [ek, es, e0]
        show (p.n h - (k + 1)) * _ + (p.n h - (k + 1) - (if false = true then 1 else 0)) * _ + _ = (p.n h - k) * _ + (p.n h - k - (if true = true then 1 else 0)) * _
        have hk := rw0.1
        obtain ⟨y, ey⟩ : ∃ y, p.n h - k = y + 1 := ⟨p.n h - k - 1, by omega⟩
        have ey' : p.n h - (k + 1) = y := by omega
        rw [ey, ey']
        simp only [Bool.false_eq_true, if_false, if_true, Nat.sub_zero, Nat.add_sub_cancel]
        rw [Nat.add_mul]; omega
      have h4 := HC (p := p) hh
      unfold phi; omega
  · rw [if_neg z] at hrow
    have etk : ∀ i, i < p.H → (σ.rows i).tk = (s.rows i).tk := fun i hi => by
      by_cases ne : i = h
      · subst ne; rw [hrow, e0]; rfl
      · exact (hoth i hi ne).1.tk
    refine Phi_fall hh (fun i hi ne => ?_) ?_
    · by_cases y : wakes q.1 (s.rows i) = true
      · exact wk i hi ne y
      · have er := (hoth i hi ne).2 (by cases x : wakes q.1 (s.rows i) <;> simp_all)
        refine phi_same (young_same etk hi) er (hold i ne) (fun x hx nx c hc => ?_) fun v _ => stl i ne v
        by_cases z : x = h
        · subst z
          rw [hrow] at hc
          left; rw [e0]; exact hc
        · exact .inl ((hoth x hx z).1.mrs hc)
    · have hb' : base p σ h = p.m - (d + 1) := by unfold base; rw [hrow]
      have hs : stale p σ h = 0 := stale_no (by rw [hrow]; rfl)
      have hp : pend p σ h = pend p s h := pend_row (by rw [hrow, e0]; rfl) (by rw [hrow, e0]; rfl)
      unfold phi; omega
end
end K70
namespace K70
section
variable {p : P} {s s' : S} {h : Nat}
theorem lockNext_idle {k : Nat} {t r : Int} {rs ws : RL} {d : Nat} (e : (lockNext s h k t r rs ws d).2 = false) : (lockNext s h k t r rs ws d).1 = s := by
  unfold lockNext at e ⊢
  split
  · rfl
  · rename_i q hq
    rw [hq] at e
    simp only at e ⊢
    split
    · rfl
    · rename_i z; rw [if_neg z] at e; cases e
theorem step_idle (e : (step p s h).2 = false) : (step p s h).1 = s := by
  unfold step at e ⊢
  split
  · rfl
  · rfl
  · rename_i e0; rw [e0] at e; cases e
  · rename_i k t r rs e0
    rw [e0] at e
    simp only at e
    split
    · rename_i c hg
      rw [hg] at e
      simp only at e ⊢
      split
      · rfl
      · rename_i z; rw [if_neg z] at e; split at e <;> cases e
    · rename_i hg
      rw [hg] at e
      simp only at e
      split at e <;> cases e
    · rename_i hg; rw [hg] at e; cases e
    · rename_i ws hg
      rw [hg] at e
      simp only at e ⊢
      split
      · rename_i z; rw [if_pos z] at e; cases e
      · rename_i z; rw [if_neg z] at e; exact lockNext_idle e
  · rename_i k t r rs ws d e0
    rw [e0] at e
    simp only at e ⊢
    split
    · rename_i z; rw [if_pos z] at e; exact lockNext_idle e
    · rename_i z; rw [if_neg z] at e; cases e
  · rename_i k t r w rs ws d e0
    rw [e0] at e
    simp only at e
    split
    · rfl
    · rename_i q hq
      rw [hq] at e
      simp only at e
      split at e
      · cases e
      · split at e
        · cases e
        · split at e
          · cases e
          · split at e <;> cases e
  · rename_i k t r w rs ws d e0
    rw [e0] at e
    simp only at e
    split
    · rfl
    · rename_i q hq
      rw [hq] at e
      cases e
theorem lockNext_fall (ok : POk p) (hh : h < p.H) {k : Nat} {t r : Int} {rs ws : RL} {d : Nat} (hg : p.g h k rs = .ended ws) (e0 : s.rows h = .locks k t r rs ws d ∨ (s.rows h = .walks k t r rs ∧ d = 0))
    (e : (lockNext s h k t r rs ws d).2 = true) : Phi p (lockNext s h k t r rs ws d).1 + 1 ≤ Phi p s := by
  unfold lockNext at e ⊢
  split
  · rename_i hq; rw [hq] at e; cases e
  · rename_i q hq
    rw [hq] at e
    simp only at e ⊢
    split
    · rename_i z; rw [if_pos z] at e; cases e
    · rename_i z
      have hn' : (s.cells q.1).holder = none := by
        cases e : (s.cells q.1).holder with
        | none => rfl
        | some x => rw [e] at z; exact absurd rfl z
      exact lock_fall ok hh hg e0 hq hn'
theorem step_fall (ok : POk p) (I : Inv p s) (hh : h < p.H) (e : (step p s h).2 = true) : Phi p (step p s h).1 + 1 ≤ Phi p s := by
  have rw0 := I.row h hh
  unfold step at e ⊢
  split
  · rename_i e0; rw [e0] at e; cases e
  · rename_i e0; rw [e0] at e; cases e
  · rename_i e0; exact begin_fall I hh e0
  · rename_i k t r rs e0
    have nt : ∀ k, s.rows h ≠ .through k := fun k e => by rw [e0] at e; cases e
    have ns : (s.rows h).sure = none := by rw [e0]; rfl
    have hb : 1 ≤ base p s h := by unfold base; rw [e0]; simp only; omega
    rw [e0] at e rw0
    simp only at e
    split
    · rename_i c hg
      rw [hg] at e
      simp only at e ⊢
      split
      · rename_i z; rw [if_pos z] at e; cases e
      · rename_i hn
        split
        · rename_i st
          exact giveUp_stale I hh nt ns hb (r := r) (by rw [e0]; rfl) (.inl ⟨c, (ok.rd _ _ _ _ hg).1, st⟩)
        · have hn' : (s.cells c).holder = none := by
            cases e : (s.cells c).holder with
            | none => rfl
            | some x => rw [e] at hn; exact absurd rfl hn
          exact read_fall ok I hh e0 hg hn'
    · split
      · rename_i st
        obtain ⟨q, hq, lt⟩ := List.any_eq_true.mp st
        have hrs := I.rsOk h hh
        rw [e0] at hrs
        exact giveUp_stale I hh nt ns hb (r := r) (by rw [e0]; rfl) (.inl ⟨q.1, hrs.lt q hq, of_decide_eq_true lt⟩)
      · exact sleep_fall hh e0
    · exact done_fall I hh nt ns hb
    · rename_i ws hg
      rw [hg] at e
      simp only at e ⊢
      split
      · exact done_fall I hh nt ns hb
      · rename_i z
        rw [if_neg z] at e
        exact lockNext_fall ok hh hg (.inr ⟨e0, rfl⟩) e
  · rename_i k t r rs ws d e0
    rw [e0] at e rw0
    simp only at e ⊢
    split
    · rename_i z; rw [if_pos z] at e; exact lockNext_fall ok hh rw0.2.1 (.inl e0) e
    · exact clock_fall I hh e0
  · rename_i k t r w rs ws d e0
    have nt : ∀ k, s.rows h ≠ .through k := fun k e => by rw [e0] at e; cases e
    have ns : (s.rows h).sure = none := by rw [e0]; rfl
    have hrs := I.rsOk h hh
    rw [e0] at e rw0 hrs
    have hl : rs.length ≤ p.m := hrs.len
    have hd := rw0.2.2.1
    have hb : 1 ≤ base p s h := by
      unfold base; rw [e0]; simp only
      have : 1 * 1 ≤ (p.m - d) * (1 + Wp p.m (yy p s h)) := Nat.mul_le_mul (by omega) (by omega)
      omega
    simp only at e
    split
    · rename_i hq; rw [hq] at e; cases e
    · rename_i q hq
      have hqm := hrs.lt q (List.mem_of_getElem? hq)
      have hqr : q.1 ∈ (s.rows h).rs.map (·.1) := by rw [e0]; exact List.mem_map.mpr ⟨q, List.mem_of_getElem? hq, rfl⟩
      split
      · rename_i st
        exact giveUp_stale I hh nt ns hb (r := r) (by rw [e0]; rfl) (.inl ⟨q.1, hqm, st⟩)
      · split
        · have := adv_fall I hh e0
          show Phi p (adv s h k t r w rs ws d) + 1 ≤ _
          omega
        · rename_i o ho
          split
          · have := adv_fall I hh e0
            show Phi p (adv s h k t r w rs ws d) + 1 ≤ _
            omega
          · rename_i no
            obtain ⟨hoH, hm⟩ := (I.hold _ hqm o).mp ho
            have nto : ∀ k, s.rows o ≠ .through k := fun k e => by rw [e] at hm; simp [Row.held] at hm
            obtain ⟨to, hto⟩ : ∃ to, (s.rows o).tk = some to := by
              cases eo : s.rows o with
              | locks k t r rs ws d => exact ⟨t, rfl⟩
              | checks k t r w rs ws d => exact ⟨t, rfl⟩
              | backs k t r w rs ws d => exact ⟨t, rfl⟩
              | _ => rw [eo] at hm; simp [Row.held] at hm
            split
            · rename_i c
              cases es : (s.rows o).sure with
              | some w' =>
                have old := I.old o h hoH hh no w' (Row.sure_wv es) q.1 hm hqr r (by rw [e0]; rfl)
                exact giveUp_stale I hh nt ns hb (r := r) (by rw [e0]; rfl) (.inr ⟨o, w', hoH, no, es, old⟩)
              | none =>
                rw [es, hto] at c
                have lt : to < t := by simpa [tkLt] using c
                exact giveUp_held I hh nt ns hb hoH no hto (by rw [e0]; rfl) lt hqm ho hqr es hm
            · rename_i c
              have es : (s.rows o).sure = none := by
                cases es : (s.rows o).sure with
                | some w' => rw [es] at c; simp at c
                | none => rfl
              have lt : t < to := by
                rw [es, hto] at c
                have c' : ¬ to < t := by simpa [tkLt] using c
                have ne : to ≠ t := fun z => no (I.tkInj o h hoH hh to hto (by rw [e0, z]; rfl))
                omega
              have g1 := giveUp_grow I hoH nto es
              have I1 := giveUp_inv I hoH nto
              have e1 : (giveUp p s o).rows h = .checks k t r w rs ws d := by
                show upd s.rows o _ h = _
                rw [upd_ne (Ne.symm no), e0]
              have g2 := adv_fall I1 hh e1
              rw [giveUp_yy I hoH nto hh] at g2
              have y1 : yy p s o + 1 ≤ yy p s h := yc_elder (tk := tks s) hoH (by show (s.rows h).tk = some t; rw [e0]; rfl) hto lt
              have hW : W p.m (yy p s o) ≤ Wp p.m (yy p s h) := W_le_Wp y1
              show Phi p (adv (giveUp p s o) h k t r w rs ws d) + 1 ≤ _
              omega
  · rename_i k t r w rs ws d e0
    rw [e0] at e
    simp only at e
    split
    · rename_i hq; rw [hq] at e; cases e
    · rename_i q hq
      exact back_fall ok I hh e0 hq
def restRow : Row → Bool
  | .through _ => true
  | .sleeps _ _ _ _ => true
  | _ => false
/-- one waits: for whom, for which cell -/
theorem waits_for (ok : POk p) (I : Inv p s) (hh : h < p.H) (nr : restRow (s.rows h) = false) (e : (step p s h).2 = false) : ∃ c o, c < p.m ∧ (s.cells c).holder = some o ∧ ∀ c', c' ∈ (s.rows h).held → c' < c := by
  have ln : ∀ {k : Nat} {t r : Int} {rs ws : RL} {d : Nat}, LOk p.m ws → d < ws.length → (∀ c', c' ∈ (s.rows h).held → c' ∈ (ws.take d).map (·.1)) → (lockNext s h k t r rs ws d).2 = false → ∃ c o, c < p.m ∧ (s.cells c).holder = some o ∧ ∀ c', c' ∈ (s.rows h).held → c' < c := by
    intro k t r rs ws d wok hd hs e
    unfold lockNext at e
    have hq : ws[d]? = some ws[d] := List.getElem?_eq_getElem hd
    rw [hq] at e
    simp only at e
    split at e
    · rename_i z
      cases ho : (s.cells (ws[d]).1).holder with
      | none => rw [ho] at z; cases z
      | some o => exact ⟨_, o, wok.lt _ (List.getElem_mem hd), ho, fun c' hc' => take_lt wok.srt hq (hs c' hc')⟩
    · cases e
  have rw0 := I.row h hh
  unfold step at e
  split at e
  · rename_i e0; rw [e0] at nr; cases nr
  · rename_i e0; rw [e0] at nr; cases nr
  · cases e
  · rename_i k t r rs e0
    split at e
    · rename_i c hg
      split at e
      · rename_i z
        cases ho : (s.cells c).holder with
        | none => rw [ho] at z; cases z
        | some o => exact ⟨c, o, (ok.rd _ _ _ _ hg).1, ho, fun c' hc' => by rw [e0] at hc'; simp [Row.held] at hc'⟩
      · split at e <;> cases e
    · split at e <;> cases e
    · cases e
    · rename_i ws hg
      split at e
      · cases e
      · rename_i z
        exact ln (ok.en _ _ _ _ hg) (List.length_pos_iff.mpr z) (fun c' hc' => by rw [e0] at hc'; simp [Row.held] at hc') e
  · rename_i k t r rs ws d e0
    rw [e0] at rw0
    split at e
    · rename_i z
      exact ln (ok.en _ _ _ _ rw0.2.1) z (fun c' hc' => by rw [e0] at hc'; exact hc') e
    · cases e
  · rename_i k t r w rs ws d e0
    rw [e0] at rw0
    split at e
    · rename_i hq
      have := List.getElem?_eq_none_iff.mp hq
      have := rw0.2.2.1
      omega
    · split at e
      · cases e
      · split at e
        · cases e
        · split at e
          · cases e
          · split at e <;> cases e
  · rename_i k t r w rs ws d e0
    rw [e0] at rw0
    split at e
    · rename_i hq
      have := List.getElem?_eq_none_iff.mp hq
      have := rw0.2.2
      omega
    · cases e
/-- where not all rest, one gets on -/
theorem gets_on (ok : POk p) (I : Inv p s) (hh : h < p.H) (nr : restRow (s.rows h) = false) : ∃ i, i < p.H ∧ (step p s i).2 = true := by
  refine Classical.byContradiction fun no => ?_
  have idle : ∀ i, i < p.H → (step p s i).2 = false := fun i hi => by
    cases e : (step p s i).2 with
    | false => rfl
    | true => exact absurd ⟨i, hi, e⟩ no
  have chain : ∀ n, ∃ i c, i < p.H ∧ n ≤ c ∧ c < p.m ∧ c ∈ (s.rows i).held := fun n => by
    induction n with
    | zero =>
      obtain ⟨c, o, hc, ho, _⟩ := waits_for ok I hh nr (idle h hh)
      obtain ⟨ho', hm⟩ := (I.hold c hc o).mp ho
      exact ⟨o, c, ho', Nat.zero_le _, hc, hm⟩
    | succ n ih =>
      obtain ⟨i, c, hi, hn, hc, hm⟩ := ih
      have nri : restRow (s.rows i) = false := by
        cases e : s.rows i <;> first | rfl | (rw [e] at hm; simp [Row.held] at hm)
      obtain ⟨c', o, hc', ho, lt⟩ := waits_for ok I hi nri (idle i hi)
      obtain ⟨ho', hm'⟩ := (I.hold c' hc' o).mp ho
      have := lt c hm
      exact ⟨o, c', ho', by omega, hc', hm'⟩
  obtain ⟨i, c, _, h1, h2, _⟩ := chain p.m
  omega
/-! ### the beginning, the bound -/
def begun (p : P) (nums : Nat → Int) : S := { clock := 0, tickets := 0, cells := fun c => ⟨nums c, 0, none⟩, rows := fun i => rowNew (p.n i) 0 none }
theorem begun_inv (nums : Nat → Int) : Inv p (begun p nums) where
  tkLt := fun h _ t e => by
    have : (rowNew (p.n h) 0 none).tk = none := by unfold rowNew; split <;> rfl
    rw [show (begun p nums).rows h = rowNew (p.n h) 0 none from rfl, this] at e; cases e
  tkInj := fun h i _ _ t e _ => by
    have : (rowNew (p.n h) 0 none).tk = none := by unfold rowNew; split <;> rfl
    rw [show (begun p nums).rows h = rowNew (p.n h) 0 none from rfl, this] at e; cases e
  rvLe := fun h _ r e => by rw [show (begun p nums).rows h = rowNew (p.n h) 0 none from rfl, rowNew_rv] at e; cases e
  wvLe := fun h _ r e => by rw [show (begun p nums).rows h = rowNew (p.n h) 0 none from rfl, rowNew_wv] at e; cases e
  stLe := fun c _ => Int.le_refl _
  rsOk := fun h _ => by rw [show (begun p nums).rows h = rowNew (p.n h) 0 none from rfl, rowNew_rs]; exact .nil
  row := fun h _ => rowNew_ok (Nat.zero_le _)
  hold := fun c _ h => by
    rw [show (begun p nums).rows h = rowNew (p.n h) 0 none from rfl, rowNew_held]
    show (none : Option Nat) = some h ↔ _
    simp
  old := fun q i _ _ _ w e => by rw [show (begun p nums).rows q = rowNew (p.n q) 0 none from rfl, rowNew_wv] at e; cases e
theorem begun_Phi (nums : Nat → Int) : Phi p (begun p nums) ≤ p.H * C p + sumN p.H p.n * (p.H * C p + B1 p) := by
  have h1 : Phi p (begun p nums) ≤ sumN p.H (fun i => C p + p.n i * (p.H * C p + B1 p)) := sum_le fun i hi => by
    have h1 := base_le (p := p) (s := begun p nums) hi
    have h2 : stale p (begun p nums) i = 0 := stale_no (by rw [show (begun p nums).rows i = rowNew (p.n i) 0 none from rfl, rowNew_sv])
    have h3 : pend p (begun p nums) i ≤ p.n i * (p.H * C p + B1 p) := by
      unfold pend
      have a : (p.n i - ((begun p nums).rows i).k) * (p.H * C p) ≤ p.n i * (p.H * C p) := Nat.mul_le_mul_right _ (Nat.sub_le _ _)
      have b : (p.n i - ((begun p nums).rows i).k - (if isSure ((begun p nums).rows i) then 1 else 0)) * B1 p ≤ p.n i * B1 p := Nat.mul_le_mul_right _ (by omega)
      rw [Nat.mul_add]; omega
    unfold phi; omega
  rw [sum_add, sum_const, sum_mul] at h1
  exact h1
/-- the number of rounds that is told -/
def bnd (m H P : Nat) : Nat := (P + 1) * ((2 * (m + 2) ^ H + 3 * H + 1) * (4 * m + 3) + m)
theorem bnd_ok {m H : Nat} (hm : 1 ≤ m) (hm3 : m ≤ 3) (hH : 1 ≤ H) (hH3 : H ≤ 3) (Q : Nat) : H * W m (H - 1) + Q * (H * W m (H - 1) + ((H - 1) * W m (H - 1) + m)) ≤ bnd m H Q := by
  have hm' : m = 1 ∨ m = 2 ∨ m = 3 := by omega
  have hH' : H = 1 ∨ H = 2 ∨ H = 3 := by omega
  rcases hm' with rfl | rfl | rfl <;> rcases hH' with rfl | rfl | rfl <;> simp [W, L, bnd] <;> omega
theorem begun_le (nums : Nat → Int) (hm : 1 ≤ p.m) (hm3 : p.m ≤ 3) (hH : 1 ≤ p.H) (hH3 : p.H ≤ 3) : Phi p (begun p nums) ≤ bnd p.m p.H (sumN p.H p.n) :=
  Nat.le_trans (begun_Phi nums) (bnd_ok hm hm3 hH hH3 _)
/-- several steps -/
def steps (p : P) : List Nat → S → S × Bool
  | [], s => (s, false)
  | h :: r, s => let x := step p s h; let y := steps p r x.1; (y.1, x.2 || y.2)
theorem steps_inv (ok : POk p) : ∀ {l : List Nat} {s : S}, Inv p s → (∀ h ∈ l, h < p.H) → Inv p (steps p l s).1 ∧ Phi p (steps p l s).1 + (if (steps p l s).2 then 1 else 0) ≤ Phi p s
  | [], s, I, _ => ⟨I, by simp [steps]⟩
  | h :: r, s, I, hl => by
    have hh := hl h (List.mem_cons_self)
    have I1 := step_inv (h := h) ok I hh
    have ih := steps_inv (l := r) ok I1 fun i hi => hl i (List.mem_cons_of_mem _ hi)
    refine ⟨ih.1, ?_⟩
    show Phi p (steps p r (step p s h).1).1 + (if ((step p s h).2 || (steps p r (step p s h).1).2) then 1 else 0) ≤ Phi p s
    have ih2 := ih.2
    cases e : (step p s h).2 with
    | true =>
      have := step_fall ok I hh e
      simp only [Bool.true_or, if_true]
      split at ih2 <;> omega
    | false =>
      rw [step_idle e] at ih2 ⊢
      simp only [Bool.false_or]
      exact ih2
theorem steps_idle : ∀ {l : List Nat} {s : S}, (steps p l s).2 = false → ∀ h ∈ l, (step p s h).2 = false
  | [], s, _, h, hm => by simp at hm
  | i :: r, s, e, h, hm => by
    have e : ((step p s i).2 || (steps p r (step p s i).1).2) = false := e
    have e1 : (step p s i).2 = false := by cases z : (step p s i).2 <;> simp_all
    have e2 : (steps p r (step p s i).1).2 = false := by cases z : (step p s i).2 <;> simp_all
    rw [step_idle e1] at e2
    rcases List.mem_cons.mp hm with z | z
    · rw [z]; exact e1
    · exact steps_idle e2 h z
/-- a round in which each hand steps once gets on where not all rest -/
theorem round_on (ok : POk p) (I : Inv p s) {l : List Nat} (all : ∀ h, h < p.H → h ∈ l) {h : Nat} (hh : h < p.H) (nr : restRow (s.rows h) = false) : (steps p l s).2 = true := by
  cases e : (steps p l s).2 with
  | true => rfl
  | false =>
    obtain ⟨i, hi, z⟩ := gets_on ok I hh nr
    rw [steps_idle e i (all i hi)] at z
    cases z
/-- all rest: no cell is held -/
theorem rest_free (I : Inv p s) (all : ∀ h, h < p.H → restRow (s.rows h) = true) {c : Nat} (hc : c < p.m) : (s.cells c).holder = none := by
  cases e : (s.cells c).holder with
  | none => rfl
  | some o =>
    obtain ⟨ho, hm⟩ := (I.hold c hc o).mp e
    have := all o ho
    cases er : s.rows o <;> first | (rw [er] at hm; simp [Row.held] at hm; done) | (rw [er] at this; cases this)
end
end K70
set_option Elab.async false
set_option linter.all false
set_option maxRecDepth 100000
/-! Data of Python as trees, what evaluates to what, by trees alone. -/
namespace Wk
open PySem L2
inductive D where
  | non | bl (b : Bool) | int (i : Int) | str (s : Str) | ref (a : Addr)
  | tup (xs : List D) | ptup (xs : List D) | lst (xs : List D) | dct (kvs : List (Key × V))
mutual
def At (K : PySem.W.Frag) (H : Hp) : D → V → Prop
  | .non, v => v = .non
  | .bl b, v => v = .bl b
  | .int i, v => v = .int i
  | .str s, v => v = .str s
  | .ref a, v => v = .ref a
  | .tup ds, v => ∃ a xs, v = .ref a ∧ Rd H a (.tup xs) ∧ AtL K H ds xs
  | .ptup ds, v => ∃ a o xs, v = .ref a ∧ H a = some (.frz o (.tup xs)) ∧ o.dict = none ∧ AtL K H ds xs
  | .lst ds, v => ∃ a xs, v = .ref a ∧ SqL K H a xs ∧ AtL K H ds xs
  | .dct kvs, v => ∃ a, v = .ref a ∧ H a = some (.dK kvs)
def AtL (K : PySem.W.Frag) (H : Hp) : List D → List V → Prop
  | [], xs => xs = []
  | d :: ds, xs => ∃ x r, xs = x :: r ∧ At K H d x ∧ AtL K H ds r
end
theorem Same.tupS {K : PySem.W.Frag} {H H' : Hp} {a : Addr} {xs : List V} (e : Same H H') (h : SqT K H a xs) : SqT K H' a xs := by
  rcases h with (h | ⟨o, h⟩) | h
  · exact .inl (.inl (e _ _ h))
  · exact .inl (.inr ⟨o, e _ _ h⟩)
  · exact .inr h
theorem Same.rd {H H' : Hp} {a : Addr} {u : HO} (e : Same H H') (h : Rd H a u) : Rd H' a u := by
  rcases h with h | ⟨o, h⟩
  · exact .inl (e _ _ h)
  · exact .inr ⟨o, e _ _ h⟩
theorem rd_uniq {H : Hp} {a : Addr} {xs ys : List V} (h1 : Rd H a (.tup xs)) (h2 : Rd H a (.tup ys)) : xs = ys := by
  rcases h1 with h1 | ⟨o, h1⟩ <;> rcases h2 with h2 | ⟨o', h2⟩ <;> rw [h1] at h2 <;> cases h2 <;> rfl
theorem Same.new {H : Hp} {p : Addr} {o : HO} (h : H p = none) : Same H (L2.upd H p o) := fun b u q => by rw [L2.upd_ne (ne_of_none q h)]; exact q
section
variable {K : PySem.W.Frag} {H H' : Hp}
mutual
theorem At.mono (e : Same H H') : ∀ {d : D} {v : V}, At K H d v → At K H' d v
  | .non, _, h => h
  | .bl _, _, h => h
  | .int _, _, h => h
  | .str _, _, h => h
  | .ref _, _, h => h
  | .tup ds, v, h => by
    obtain ⟨a, xs, e1, h1, h2⟩ := h
    exact ⟨a, xs, e1, Same.rd e h1, AtL.mono e h2⟩
  | .ptup ds, v, h => by
    obtain ⟨a, o, xs, e1, h1, h0, h2⟩ := h
    exact ⟨a, o, xs, e1, e _ _ h1, h0, AtL.mono e h2⟩
  | .lst ds, v, h => by
    obtain ⟨a, xs, e1, h1, h2⟩ := h
    exact ⟨a, xs, e1, e.seq h1, AtL.mono e h2⟩
  | .dct kvs, v, h => by
    obtain ⟨a, e1, h1⟩ := h
    exact ⟨a, e1, e _ _ h1⟩
theorem AtL.mono (e : Same H H') : ∀ {ds : List D} {vs : List V}, AtL K H ds vs → AtL K H' ds vs
  | [], _, h => h
  | d :: ds, vs, h => by
    obtain ⟨x, r, e1, h1, h2⟩ := h
    exact ⟨x, r, e1, At.mono e h1, AtL.mono e h2⟩
end
theorem AtL.len : ∀ {ds : List D} {vs : List V}, AtL K H ds vs → vs.length = ds.length
  | [], _, h => by rw [show _ = [] from h]; rfl
  | d :: ds, vs, h => by
    obtain ⟨x, r, e1, h1, h2⟩ := h
    rw [e1, List.length_cons, List.length_cons, AtL.len h2]
theorem AtL.get : ∀ {ds : List D} {vs : List V} {i : Nat} {d : D}, AtL K H ds vs → ds[i]? = some d → ∃ v, vs[i]? = some v ∧ At K H d v
  | [], _, i, d, _, e => by simp at e
  | d :: ds, vs, 0, d', h, e => by
    obtain ⟨x, r, e1, h1, h2⟩ := h
    have : d = d' := by simpa using e
    subst this
    exact ⟨x, by rw [e1]; rfl, h1⟩
  | d :: ds, vs, i + 1, d', h, e => by
    obtain ⟨x, r, e1, h1, h2⟩ := h
    obtain ⟨v, q, a⟩ := AtL.get (i := i) h2 (by simpa using e)
    exact ⟨v, by rw [e1]; simpa using q, a⟩
theorem AtL.back : ∀ {ds : List D} {vs : List V} {i : Nat} {v : V}, AtL K H ds vs → vs[i]? = some v → ∃ d, ds[i]? = some d ∧ At K H d v
  | [], _, i, v, h, e => by rw [show _ = [] from h] at e; simp at e
  | d :: ds, vs, 0, v, h, e => by
    obtain ⟨x, r, e1, h1, h2⟩ := h
    rw [e1] at e
    have : x = v := by simpa using e
    subst this
    exact ⟨d, rfl, h1⟩
  | d :: ds, vs, i + 1, v, h, e => by
    obtain ⟨x, r, e1, h1, h2⟩ := h
    rw [e1] at e
    obtain ⟨d', q, a⟩ := AtL.back (i := i) h2 (by simpa using e)
    exact ⟨d', by simpa using q, a⟩
theorem AtL.append : ∀ {ds es : List D} {vs ws : List V}, AtL K H ds vs → AtL K H es ws → AtL K H (ds ++ es) (vs ++ ws)
  | [], _, _, _, h, g => by rw [show _ = [] from h]; exact g
  | d :: ds, _, _, _, h, g => by
    obtain ⟨x, r, e1, h1, h2⟩ := h
    rw [e1]
    exact ⟨x, _, rfl, h1, AtL.append h2 g⟩
theorem AtL.drop : ∀ {ds : List D} {vs : List V} (n : Nat), AtL K H ds vs → AtL K H (ds.drop n) (vs.drop n)
  | _, _, 0, h => h
  | [], _, n + 1, h => by rw [show _ = [] from h]; simp [AtL]
  | d :: ds, _, n + 1, h => by
    obtain ⟨x, r, e1, h1, h2⟩ := h
    rw [e1]
    exact AtL.drop n h2
theorem AtL.take : ∀ {ds : List D} {vs : List V} (n : Nat), AtL K H ds vs → AtL K H (ds.take n) (vs.take n)
  | _, _, 0, h => by simp [AtL]
  | [], _, n + 1, h => by rw [show _ = [] from h]; simp [AtL]
  | d :: ds, _, n + 1, h => by
    obtain ⟨x, r, e1, h1, h2⟩ := h
    rw [e1]
    exact ⟨x, _, rfl, h1, AtL.take n h2⟩
theorem AtL.one {d : D} {v : V} (h : At K H d v) : AtL K H [d] [v] := ⟨v, [], rfl, h, rfl⟩
theorem AtL.of_get : ∀ {ds : List D} {vs : List V}, vs.length = ds.length → (∀ (i : Nat) (d : D), ds[i]? = some d → ∃ v, vs[i]? = some v ∧ At K H d v) → AtL K H ds vs
  | [], vs, hl, _ => List.eq_nil_of_length_eq_zero hl
  | d :: ds, [], hl, _ => by simp at hl
  | d :: ds, x :: r, hl, h => by
    obtain ⟨v, e, a⟩ := h 0 d rfl
    have : x = v := by simpa using e
    subst this
    refine ⟨x, r, rfl, a, AtL.of_get (by simpa using hl) fun i d' q => ?_⟩
    obtain ⟨v, e, a⟩ := h (i + 1) d' (by simpa using q)
    exact ⟨v, by simpa using e, a⟩
theorem AtL.ints : ∀ {is : List Int} {vs : List V}, AtL K H (is.map D.int) vs → vs = is.map V.int
  | [], _, h => h
  | i :: is, _, h => by
    obtain ⟨x, r, e1, h1, h2⟩ := h
    rw [e1, AtL.ints h2, show x = .int i from h1]; rfl
theorem At.tup_new {p : Addr} {ds : List D} {vs : List V} (hp : H p = none) (h : AtL K H ds vs) : At K (L2.upd H p (.tup vs)) (.tup ds) (.ref p) :=
  ⟨p, vs, rfl, .inl L2.upd_same, AtL.mono (Same.new hp) h⟩
theorem At.lst_new {p : Addr} {ds : List D} {vs : List V} (hp : H p = none) (h : AtL K H ds vs) : At K (L2.upd H p (.lst vs)) (.lst ds) (.ref p) :=
  ⟨p, vs, rfl, SqL.of L2.upd_same, AtL.mono (Same.new hp) h⟩
end
/-! ### slots -/
abbrev Gm := List (Option D)
structure SA (K : PySem.W.Frag) (H : Hp) (σ : St) (Γ : Gm) : Prop where
  len : σ.length = Γ.length
  at_ : ∀ (i : Nat) (d : D), Γ[i]? = some (some d) → ∃ v, σ[i]? = some (some v) ∧ At K H d v
section
variable {K : PySem.W.Frag} {H H' : Hp} {σ : St} {Γ : Gm}
theorem SA.mono (e : Same H H') (h : SA K H σ Γ) : SA K H' σ Γ := ⟨h.len, fun i d q => let ⟨v, a, b⟩ := h.at_ i d q; ⟨v, a, At.mono e b⟩⟩
theorem SA.set {i : Nat} {d : D} {v : V} (h : SA K H σ Γ) (a : At K H d v) : SA K H (σ.set i (some v)) (Γ.set i (some d)) := by
  refine ⟨by rw [List.length_set, List.length_set]; exact h.len, fun j d' q => ?_⟩
  by_cases z : i = j
  · subst z
    by_cases hl : i < Γ.length
    · rw [List.getElem?_set_self hl] at q
      cases q
      exact ⟨v, by rw [List.getElem?_set_self (by rw [h.len]; exact hl)], a⟩
    · rw [List.getElem?_eq_none (by rw [List.length_set]; omega)] at q; cases q
  · rw [List.getElem?_set_ne z] at q
    rw [List.getElem?_set_ne z]
    exact h.at_ j d' q
theorem SA.wipe {vs : List Nat} {Γ' : Gm} (h : SA K H σ Γ) (hl : Γ'.length = Γ.length) (hw : ∀ (i : Nat) (d : D), Γ'[i]? = some (some d) → Γ[i]? = some (some d) ∧ i ∉ vs) : SA K H (wipe σ vs) Γ' := by
  refine ⟨by rw [wipe_length, hl]; exact h.len, fun i d q => ?_⟩
  obtain ⟨q1, q2⟩ := hw i d q
  obtain ⟨v, e, a⟩ := h.at_ i d q1
  refine ⟨v, ?_, a⟩
  clear a q q1 hw hl h
  induction vs with
  | nil => exact e
  | cons w ws ih =>
    unfold L2.wipe
    rw [List.getElem?_set_ne (by rintro rfl; exact q2 List.mem_cons_self)]
    exact ih fun z => q2 (List.mem_cons_of_mem _ z)
theorem SA.weak {Γ' : Gm} (h : SA K H σ Γ) (hl : Γ'.length = Γ.length) (hw : ∀ (i : Nat) (d : D), Γ'[i]? = some (some d) → Γ[i]? = some (some d)) : SA K H σ Γ' :=
  ⟨by rw [hl]; exact h.len, fun i d q => h.at_ i d (hw i d q)⟩
theorem sa_start {N : List Str} {ds : List D} {vs : List V} (h : AtL K H ds vs) : SA K H (L2.start N vs) (ds.map some ++ List.replicate (N.length - ds.length) none) := by
  refine ⟨by unfold L2.start; simp [AtL.len h], fun i d q => ?_⟩
  unfold L2.start
  by_cases z : i < ds.length
  · rw [List.getElem?_append_left (by simpa using z), List.getElem?_map] at q
    cases e : ds[i]? with
    | none => rw [e] at q; cases q
    | some d' =>
      rw [e] at q
      cases q
      obtain ⟨v, e1, a⟩ := AtL.get h e
      exact ⟨v, by rw [List.getElem?_append_left (by rw [List.length_map, AtL.len h]; exact z), List.getElem?_map, e1]; rfl, a⟩
  · rw [List.getElem?_append_right (by simpa using z)] at q
    obtain ⟨_, e⟩ := List.getElem?_eq_some_iff.mp q
    rw [List.getElem_replicate] at e; cases e
end
/-! ### what evaluates to what -/
def EvP (K : PySem.W.Frag) (te : TE) (Γ : Gm) (P : D → Prop) : Prop := ∀ σ H, SA K H σ Γ → ∀ Q : VK, (∀ v H' d, P d → Same H H' → At K H' d v → Q v H') → te σ H Q
def Ev (K : PySem.W.Frag) (te : TE) (Γ : Gm) (d : D) : Prop := ∀ σ H, SA K H σ Γ → ∀ Q : VK, (∀ v H', Same H H' → At K H' d v → Q v H') → te σ H Q
def EvB (K : PySem.W.Frag) (tt : TT) (Γ : Gm) (b : Bool) : Prop := ∀ σ H, SA K H σ Γ → ∀ Q : Bool → Hp → Prop, (∀ H', Same H H' → Q b H') → tt σ H Q
def EvA (K : PySem.W.Frag) (ta : TA) (Γ : Gm) (ds : List D) : Prop := ∀ σ H, SA K H σ Γ → ∀ Q : List V → Hp → Prop, (∀ vs H', Same H H' → AtL K H' ds vs → Q vs H') → ta σ H Q
def EvO (K : PySem.W.Frag) (to : TO) (Γ : Gm) (o : Option Int) : Prop := ∀ σ H, SA K H σ Γ → ∀ Q : Option Int → Hp → Prop, (∀ H', Same H H' → Q o H') → to σ H Q
/-- an operation on values: of data d1, d2 -/
def RD (K : PySem.W.Frag) (r : R2) (d1 d2 d : D) : Prop := ∀ x y H, At K H d1 x → At K H d2 y → ∀ Q : VK, (∀ v H', Same H H' → At K H' d v → Q v H') → r x y H Q
def RC (K : PySem.W.Frag) (r : List V → Hp → VK → Prop) (ds : List D) (d : D) : Prop := ∀ vs H, AtL K H ds vs → ∀ Q : VK, (∀ v H', Same H H' → At K H' d v → Q v H') → r vs H Q
def RCP (K : PySem.W.Frag) (r : List V → Hp → VK → Prop) (ds : List D) (P : D → Prop) : Prop := ∀ vs H, AtL K H ds vs → ∀ Q : VK, (∀ v H' d, P d → Same H H' → At K H' d v → Q v H') → r vs H Q
/-- what a def promises: on data ds an answer for which P -/
def spD (K : PySem.W.Frag) (R : List D → (D → Prop) → Prop) : Sp := fun vs H Q _ => ∃ ds P, R ds P ∧ AtL K H ds vs ∧ ∀ v H' d, P d → Same H H' → At K H' d v → Q v H'
section
variable {K : PySem.W.Frag} {Γ : Gm} {ta tb tc te : TE} {d d1 d2 : D} {ds es : List D} {b : Bool} {tt uu : TT} {P : D → Prop}
theorem Ev.p (h : Ev K te Γ d) : EvP K te Γ (fun x => x = d) := fun σ H sa Q q => h σ H sa Q fun v H' e a => q v H' d rfl e a
theorem EvP.det (h : EvP K te Γ P) (hd : ∀ x, P x → x = d) : Ev K te Γ d := fun σ H sa Q q => h σ H sa Q fun v H' x px e a => q v H' e (hd x px ▸ a)
theorem EvP.imp {P' : D → Prop} (h : EvP K te Γ P) (hp : ∀ x, P x → P' x) : EvP K te Γ P' := fun σ H sa Q q => h σ H sa Q fun v H' x px e a => q v H' x (hp x px) e a
theorem Ev.eq {d' : D} (h : Ev K te Γ d) (e : d = d') : Ev K te Γ d' := e ▸ h
theorem EvB.eq {b' : Bool} (h : EvB K tt Γ b) (e : b = b') : EvB K tt Γ b' := e ▸ h
theorem ev_var {i : Nat} (h : Γ[i]? = some (some d)) : Ev K (tVar i) Γ d := fun σ H sa Q q => let ⟨v, e, a⟩ := sa.at_ i d h; ⟨v, e, q v H (Same.refl H) a⟩
theorem ev_int {i : Int} : Ev K (tC (.int i)) Γ (.int i) := fun σ H sa Q q => q _ H (Same.refl H) rfl
theorem ev_str {s : Str} : Ev K (tC (.str s)) Γ (.str s) := fun σ H sa Q q => q _ H (Same.refl H) rfl
theorem At.pt {H : Hp} {v : V} (a : At K H (.ptup ds) v) : At K H (.tup ds) v := let ⟨p, o, xs, e, h, _, al⟩ := a; ⟨p, xs, e, .inr ⟨o, h⟩, al⟩
theorem ev_pt (h : Ev K te Γ (.ptup ds)) : Ev K te Γ (.tup ds) := fun σ H sa Q q => h σ H sa Q fun v H' e a => q v H' e (At.pt a)
theorem ev_non : Ev K (tC .non) Γ .non := fun σ H sa Q q => q _ H (Same.refl H) rfl
theorem ev_bl {k : Bool} : Ev K (tC (.bl k)) Γ (.bl k) := fun σ H sa Q q => q _ H (Same.refl H) rfl
theorem ev_ref {a : Addr} : Ev K (tC (.ref a)) Γ (.ref a) := fun σ H sa Q q => q _ H (Same.refl H) rfl
/-- a constant of the module that is a tuple -/
theorem ev_cst {v : V} (h : ∀ H, At K H d v) : Ev K (tC v) Γ d := fun σ H sa Q q => q _ H (Same.refl H) (h H)
theorem ev_op {r : R2} (ha : Ev K ta Γ d1) (hb : Ev K tb Γ d2) (hr : RD K r d1 d2 d) : Ev K (tOp r ta tb) Γ d := fun σ H sa Q q =>
  ha σ H sa _ fun x H1 e1 a1 => hb σ H1 (sa.mono e1) _ fun y H2 e2 a2 => hr x y H2 (At.mono e2 a1) a2 Q fun v H3 e3 a3 => q v H3 ((e1.trans e2).trans e3) a3
theorem eva_nil : EvA K tNil Γ [] := fun σ H sa Q q => q [] H (Same.refl H) rfl
theorem eva_cons {t : TA} (ha : Ev K ta Γ d) (hr : EvA K t Γ ds) : EvA K (tCons ta t) Γ (d :: ds) := fun σ H sa Q q =>
  ha σ H sa _ fun x H1 e1 a1 => hr σ H1 (sa.mono e1) _ fun xs H2 e2 a2 => q (x :: xs) H2 (e1.trans e2) ⟨x, xs, rfl, At.mono e2 a1, a2⟩
theorem ev_tup {t : TA} (h : EvA K t Γ ds) (hl : ds.length ≤ sizeLine) : Ev K (tTup t) Γ (.tup ds) := fun σ H sa Q q =>
  h σ H sa _ fun xs H1 e1 a1 => ⟨by rw [AtL.len a1]; exact hl, fun p hp => q (.ref p) _ (e1.trans (Same.new hp)) (At.tup_new hp a1)⟩
theorem ev_lst {t : TA} (h : EvA K t Γ ds) (hl : ds.length ≤ sizeLine) : Ev K (tLst t) Γ (.lst ds) := fun σ H sa Q q =>
  h σ H sa _ fun xs H1 e1 a1 => ⟨by rw [AtL.len a1]; exact hl, fun p hp => q (.ref p) _ (e1.trans (Same.new hp)) (At.lst_new hp a1)⟩
theorem sz5 {n : Nat} (h : n ≤ 100000) : n ≤ sizeLine := Nat.le_trans h (by decide)
theorem szl {n : Nat} (h : n ≤ 100000) : n < sizeLine := Nat.lt_of_le_of_lt h (by decide)
/-! operations -/
theorem rd_I0 {g : Int → Int → V} {i j : Int} (h : ∀ H, At K H d (g i j)) : RD K (rI0 g) (.int i) (.int j) d := fun x y H a1 a2 Q q => ⟨i, j, a1, a2, q _ H (Same.refl H) (h H)⟩
theorem rd_int {g : Int → Int → Int} {i j : Int} : RD K (rI0 fun a b => .int (g a b)) (.int i) (.int j) (.int (g i j)) := rd_I0 fun _ => rfl
theorem rd_bl {g : Int → Int → Bool} {i j : Int} : RD K (rI0 fun a b => .bl (g a b)) (.int i) (.int j) (.bl (g i j)) := rd_I0 fun _ => rfl
theorem rd_I {c : Int → Int → Prop} {g : Int → Int → Int} {i j : Int} (hc : c i j) : RD K (rI c fun a b => .int (g a b)) (.int i) (.int j) (.int (g i j)) := fun x y H a1 a2 Q q => ⟨i, j, a1, a2, hc, q _ H (Same.refl H) rfl⟩
def Fl : D → Option V
  | .non => some .non | .bl b => some (.bl b) | .int i => some (.int i) | .str s => some (.str s) | _ => none
theorem Fl.at {H : Hp} {u v : V} (h : Fl d = some u) (a : At K H d v) : v = u := by
  cases d <;> simp only [Fl, reduceCtorEq, Option.some.injEq] at h <;> (subst h; exact a)
theorem rd_eq {x y : V} (h1 : Fl d1 = some x) (h2 : Fl d2 = some y) (hs : scal x y = true) : RD K rEq d1 d2 (.bl (decide (x = y))) := fun u v H a1 a2 Q q => by
  have e1 := Fl.at h1 a1
  have e2 := Fl.at h2 a2
  subst e1 e2
  exact ⟨hs, q _ H (Same.refl H) rfl⟩
theorem rd_ne {x y : V} (h1 : Fl d1 = some x) (h2 : Fl d2 = some y) (hs : scal x y = true) : RD K rNe d1 d2 (.bl (!decide (x = y))) := fun u v H a1 a2 Q q => by
  have e1 := Fl.at h1 a1
  have e2 := Fl.at h2 a2
  subst e1 e2
  exact ⟨hs, q _ H (Same.refl H) rfl⟩
def isNon : D → Bool
  | .non => true | _ => false
theorem isNon_at {H : Hp} {v : V} (a : At K H d v) : decide (v = .non) = isNon d := by
  cases d with
  | non => rw [show v = .non from a]; rfl
  | bl b => rw [show v = _ from a]; rfl
  | int b => rw [show v = _ from a]; rfl
  | str b => rw [show v = _ from a]; rfl
  | ref b => rw [show v = _ from a]; rfl
  | tup b => obtain ⟨p, xs, e, _⟩ := a; rw [e]; rfl
  | ptup b => obtain ⟨p, o, xs, e, _⟩ := a; rw [e]; rfl
  | lst b => obtain ⟨p, xs, e, _⟩ := a; rw [e]; rfl
  | dct b => obtain ⟨p, e, _⟩ := a; rw [e]; rfl
theorem rd_isN : RD K (fun x y H Q => y = .non ∧ Q (.bl (decide (x = .non))) H) d .non (.bl (isNon d)) := fun u v H a1 a2 Q q => ⟨a2, by rw [isNon_at a1]; exact q _ H (Same.refl H) rfl⟩
theorem rd_notN : RD K (fun x y H Q => y = .non ∧ Q (.bl (!decide (x = .non))) H) d .non (.bl (!isNon d)) := fun u v H a1 a2 Q q => ⟨a2, by rw [isNon_at a1]; exact q _ H (Same.refl H) rfl⟩
theorem atI_of {xs : List V} {i : Nat} {v : V} (h : xs[i]? = some v) : atI xs (i : Int) = some v := atI_nat h
theorem rd_ixT {i : Nat} {n : Int} (hn : n = (i : Int)) (h : ds[i]? = some d) : RD K (rIx K) (.tup ds) (.int n) d := fun x y H a1 a2 Q q => by
  obtain ⟨p, xs, e, hs, al⟩ := a1
  obtain ⟨v, hv, av⟩ := AtL.get al h
  exact .inr (.inl ⟨p, xs, n, v, e, a2, .inl hs, by rw [hn]; exact atI_of hv, q v H (Same.refl H) av⟩)
theorem rd_ixL {i : Nat} {n : Int} (hn : n = (i : Int)) (h : ds[i]? = some d) : RD K (rIx K) (.lst ds) (.int n) d := fun x y H a1 a2 Q q => by
  obtain ⟨p, xs, e, hs, al⟩ := a1
  obtain ⟨v, hv, av⟩ := AtL.get al h
  exact .inl ⟨p, xs, n, v, e, a2, hs, by rw [hn]; exact atI_of hv, q v H (Same.refl H) av⟩
theorem rd_cat (hl : ds.length + es.length ≤ sizeLine) : RD K (rCatA K) (.tup ds) (.tup es) (.tup (ds ++ es)) := fun x y H a1 a2 Q q => by
  obtain ⟨p, xs, e1, hs, al⟩ := a1
  obtain ⟨p', ys, e2, hs', al'⟩ := a2
  refine ⟨p, p', xs, ys, e1, e2, .inl hs, .inl hs', by rw [AtL.len al, AtL.len al']; exact hl, fun z => ?_, fun _ z => ?_, fun _ _ r hr => ?_⟩
  · have : ds = [] := List.eq_nil_of_length_eq_zero (by rw [← AtL.len al, z]; rfl)
    subst this
    exact q _ H (Same.refl H) ⟨p', ys, rfl, hs', al'⟩
  · have : es = [] := List.eq_nil_of_length_eq_zero (by rw [← AtL.len al', z]; rfl)
    subst this
    rw [List.append_nil] at q
    exact q _ H (Same.refl H) ⟨p, xs, rfl, hs, al⟩
  · exact q _ _ (Same.new hr) (At.tup_new hr (AtL.append al al'))
theorem sIx_lo {n i : Nat} (h : i ≤ n) : HT.sIx n 0 (some (i : Int)) = i := by rw [HT.sIx_nat]; omega
theorem sIx_hi {n i : Nat} (h : i ≤ n) : HT.sIx n n (some (i : Int)) = i := by rw [HT.sIx_nat]; omega
end
end Wk
set_option Elab.async false
set_option linter.all false
set_option maxRecDepth 100000
namespace Wk
open PySem L2
section
variable {K : PySem.W.Frag} {Γ : Gm} {ta tb tc te : TE} {d d1 d2 : D} {ds es : List D} {b : Bool} {tt uu : TT} {P : D → Prop}
/-! slices -/
theorem evo_none : EvO K tNoPart Γ none := fun σ H sa Q q => q H (Same.refl H)
theorem evo_some {i : Int} (h : Ev K te Γ (.int i)) : EvO K (tPart te) Γ (some i) := fun σ H sa Q q => h σ H sa _ fun v H1 e a => ⟨i, a, q H1 e⟩
theorem slice_all {xs : List V} {lo hi : Option Int} (h : HT.sIx xs.length 0 lo = 0 ∧ HT.sIx xs.length xs.length hi = xs.length) : xs = cutV xs lo hi := by
  unfold cutV
  rw [h.1, h.2]
  simp
def cutD (ds : List D) (lo hi : Option Int) : List D := (ds.drop (HT.sIx ds.length 0 lo)).take (HT.sIx ds.length ds.length hi - HT.sIx ds.length 0 lo)
theorem AtL.cut {H : Hp} {vs : List V} {lo hi : Option Int} (h : AtL K H ds vs) : AtL K H (cutD ds lo hi) (cutV vs lo hi) := by
  unfold cutD cutV
  rw [AtL.len h]
  exact AtL.take _ (AtL.drop _ h)
theorem ev_slT {tl th : TO} {lo hi : Option Int} (h : Ev K te Γ (.tup ds)) (hl : EvO K tl Γ lo) (hh : EvO K th Γ hi) : Ev K (tSl (rSlA K) te tl th) Γ (.tup (cutD ds lo hi)) := fun σ H sa Q q =>
  h σ H sa _ fun x H1 e1 a1 => hl σ H1 (sa.mono e1) _ fun H2 e2 => hh σ H2 (sa.mono (e1.trans e2)) _ fun H3 e3 => by
    obtain ⟨p, xs, e, hs, al⟩ := At.mono (e2.trans e3) a1
    have e' := (e1.trans e2).trans e3
    refine ⟨p, xs, e, .inl hs, fun z => ?_, fun z r hr => ?_⟩
    · have := AtL.cut (lo := lo) (hi := hi) al
      rw [← slice_all z] at this
      exact q _ _ e' ⟨p, xs, rfl, hs, this⟩
    · exact q _ _ (e'.trans (Same.new hr)) (At.tup_new hr (AtL.cut al))
theorem ev_slL {tl th : TO} {lo hi : Option Int} (h : Ev K te Γ (.lst ds)) (hl : EvO K tl Γ lo) (hh : EvO K th Γ hi) : Ev K (tSl (rSlL K) te tl th) Γ (.lst (cutD ds lo hi)) := fun σ H sa Q q =>
  h σ H sa _ fun x H1 e1 a1 => hl σ H1 (sa.mono e1) _ fun H2 e2 => hh σ H2 (sa.mono (e1.trans e2)) _ fun H3 e3 => by
    obtain ⟨p, xs, e, hs, al⟩ := At.mono (e2.trans e3) a1
    have e' := (e1.trans e2).trans e3
    exact ⟨p, xs, e, hs, fun r hr => q _ _ (e'.trans (Same.new hr)) (At.lst_new hr (AtL.cut al))⟩
theorem cut_to {n : Nat} (h : n ≤ ds.length) : cutD ds none (some (n : Int)) = ds.take n := by
  unfold cutD
  rw [sIx_hi h]
  show List.take (n - 0) (List.drop 0 ds) = _
  simp
theorem cut_from {n : Nat} (h : n ≤ ds.length) : cutD ds (some (n : Int)) none = ds.drop n := by
  unfold cutD
  rw [sIx_lo h]
  show List.take (ds.length - n) (List.drop n ds) = _
  rw [List.take_of_length_le (by rw [List.length_drop]; omega)]
theorem cut_big {n : Nat} (h : ds.length ≤ n) : cutD ds none (some (n : Int)) = ds := by
  unfold cutD
  have e : HT.sIx ds.length ds.length (some (n : Int)) = ds.length := by rw [HT.sIx_nat]; omega
  rw [e]
  show List.take (ds.length - 0) (List.drop 0 ds) = _
  simp
/-! dicts -/
theorem ev_dget {kvs : List (Key × V)} {k : Key} {v : V} (hd : Ev K te Γ (.dct kvs)) (hk : Ev K ta Γ d1) (ek : Fl d1 = some (kV k)) (hv : valV kvs k = some v) (ed : ∀ H, At K H d v) : Ev K (tDGet te ta) Γ d := fun σ H sa Q q =>
  hd σ H sa _ fun x H1 e1 a1 => hk σ H1 (sa.mono e1) _ fun y H2 e2 a2 => by
    obtain ⟨a, e, ha⟩ := At.mono e2 a1
    exact ⟨a, v, e, .inl ⟨kvs, k, .inl ha, Fl.at ek a2, hv.symm⟩, q v H2 (e1.trans e2) (ed _)⟩
theorem ev_dgetor {kvs : List (Key × V)} {k : Key} (hd : Ev K te Γ (.dct kvs)) (hk : Ev K ta Γ d1) (hx : Ev K tb Γ d2) (ek : Fl d1 = some (kV k)) {v2 : V} (e2 : Fl d2 = some v2) (ed : ∀ H, At K H d ((valV kvs k).getD v2)) : Ev K (tDGet2 te ta tb) Γ d := fun σ H sa Q q =>
  hd σ H sa _ fun x H1 e1 a1 => by
    obtain ⟨a, e, ha⟩ := a1
    exact ⟨a, e, .inl ⟨kvs, .inl ha⟩, hk σ H1 (sa.mono e1) _ fun y H2 e3 a2 => hx σ H2 (sa.mono (e1.trans e3)) _ fun z H3 e4 a3 =>
      ⟨valV kvs k, .inl ⟨kvs, k, .inl (e4 _ _ (e3 _ _ ha)), Fl.at ek a2, rfl⟩, by rw [Fl.at e2 a3]; exact q _ H3 ((e1.trans e3).trans e4) (ed _)⟩⟩
theorem ev_din {kvs : List (Key × V)} {k : Key} (hk : Ev K ta Γ d1) (hd : Ev K te Γ (.dct kvs)) (ek : Fl d1 = some (kV k)) : Ev K (tDIn ta te) Γ (.bl (valV kvs k).isSome) := fun σ H sa Q q =>
  hk σ H sa _ fun y H1 e1 a1 => hd σ H1 (sa.mono e1) _ fun x H2 e2 a2 => by
    obtain ⟨a, e, ha⟩ := a2
    exact ⟨a, valV kvs k, e, .inl ⟨kvs, k, .inl ha, Fl.at ek a1, rfl⟩, q _ H2 (e1.trans e2) rfl⟩
theorem ev_dnew : Ev K tDNewK Γ (.dct []) := fun σ H sa Q q p hp => q _ _ (Same.new hp) ⟨p, rfl, L2.upd_same⟩
/-- d[k] of a written dict -/
theorem rd_kd {w : World} {p : Addr} {z : Str} {v : V} (kd : KDct K w p z v) (ed : ∀ H, At K H d v) : RD K (rIxD K w) (.ref p) (.str z) d := fun x y H a1 a2 Q q => ⟨p, z, v, a1, a2, kd, q v H (Same.refl H) (ed H)⟩
/-! calls -/
theorem ev_cb {r : List V → Hp → VK → Prop} {t : TA} (h : EvA K t Γ ds) (hr : RC K r ds d) : Ev K (tCB r t) Γ d := fun σ H sa Q q =>
  h σ H sa _ fun vs H1 e1 a1 => hr vs H1 a1 Q fun v H2 e2 a2 => q v H2 (e1.trans e2) a2
theorem evp_cb {r : List V → Hp → VK → Prop} {t : TA} (h : EvA K t Γ ds) (hr : RCP K r ds P) : EvP K (tCB r t) Γ P := fun σ H sa Q q =>
  h σ H sa _ fun vs H1 e1 a1 => hr vs H1 a1 Q fun v H2 d p e2 a2 => q v H2 d p (e1.trans e2) a2
theorem evp_call {R : List D → (D → Prop) → Prop} {t : TA} {E : XK} (h : EvA K t Γ ds) (hr : R ds P) : EvP K (tCall (spD K R) [] E t) Γ P := fun σ H sa Q q =>
  h σ H sa _ fun vs H1 e1 a1 => ⟨ds, P, hr, by rw [List.append_nil]; exact a1, fun v H2 d p e2 a2 => q v H2 d p (e1.trans e2) a2⟩
theorem ev_call {R : List D → (D → Prop) → Prop} {t : TA} {E : XK} (h : EvA K t Γ ds) (hr : R ds P) (hd : ∀ x, P x → x = d) : Ev K (tCall (spD K R) [] E t) Γ d := (evp_call h hr).det hd
theorem evp_call0 {R : List D → (D → Prop) → Prop} {E : XK} (hr : R [] P) : EvP K (tCall (spD K R) [] E tNil) Γ P := evp_call eva_nil hr
theorem rc_lenT : RC K (fun xs H Q => ∃ p ys, xs = [V.ref p] ∧ (SqL K H p ys ∨ SqT K H p ys) ∧ Q (V.int (ys.length : Int)) H) [.tup ds] (.int (ds.length : Int)) := fun vs H a Q q => by
  obtain ⟨x, r, e1, ⟨p, xs, e2, hs, al⟩, e3⟩ := a
  rw [show r = [] from e3] at e1
  refine ⟨p, xs, by rw [e1, e2], .inr (.inl hs), ?_⟩
  rw [AtL.len al]
  exact q _ H (Same.refl H) rfl
theorem rc_lenL : RC K (fun xs H Q => ∃ p ys, xs = [V.ref p] ∧ (SqL K H p ys ∨ SqT K H p ys) ∧ Q (V.int (ys.length : Int)) H) [.lst ds] (.int (ds.length : Int)) := fun vs H a Q q => by
  obtain ⟨x, r, e1, ⟨p, xs, e2, hs, al⟩, e3⟩ := a
  rw [show r = [] from e3] at e1
  refine ⟨p, xs, by rw [e1, e2], .inl hs, ?_⟩
  rw [AtL.len al]
  exact q _ H (Same.refl H) rfl
theorem rc_tuple : RC K (fun xs H Q => ∃ p ys, xs = [V.ref p] ∧ ((SqL K H p ys ∧ ∀ l, H l = none → Q (V.ref l) (L2.upd H l (HO.tup ys))) ∨ SqT K H p ys ∧ Q (V.ref p) H)) [.lst ds] (.tup ds) := fun vs H a Q q => by
  obtain ⟨x, r, e1, ⟨p, xs, e2, hs, al⟩, e3⟩ := a
  rw [show r = [] from e3] at e1
  exact ⟨p, xs, by rw [e1, e2], .inl ⟨hs, fun l hl => q _ _ (Same.new hl) (At.tup_new hl al)⟩⟩
theorem AtL.bls {H : Hp} : ∀ {bs : List Bool} {vs : List V}, AtL K H (bs.map D.bl) vs → vs = bs.map V.bl
  | [], _, h => h
  | i :: is, _, h => by
    obtain ⟨x, r, e1, h1, h2⟩ := h
    rw [e1, AtL.bls h2, show x = .bl i from h1]; rfl
theorem rc_all {bs : List Bool} : RC K (rAll K) [.lst (bs.map .bl)] (.bl (bs.all id)) := fun vs H a Q q => by
  obtain ⟨x, r, e1, ⟨p, xs, e2, hs, al⟩, e3⟩ := a
  rw [show r = [] from e3] at e1
  have := AtL.bls al
  subst this
  exact ⟨p, bs, by rw [e1, e2], hs, q _ H (Same.refl H) rfl⟩
theorem rc_sum {is : List Int} : RC K (rSum K) [.lst (is.map .int)] (.int is.sum) := fun vs H a Q q => by
  obtain ⟨x, r, e1, ⟨p, xs, e2, hs, al⟩, e3⟩ := a
  rw [show r = [] from e3] at e1
  rw [AtL.ints al] at hs
  exact ⟨p, is, by rw [e1, e2], hs, q _ H (Same.refl H) rfl⟩
/-! tests -/
theorem eb_test (h : Ev K te Γ (.bl b)) : EvB K (tTest te) Γ b := fun σ H sa Q q => h σ H sa _ fun v H1 e a => ⟨b, a, q H1 e⟩
theorem eb_B (h : Ev K te Γ (.bl b)) : EvB K (tB te) Γ b := fun σ H sa Q q => h σ H sa _ fun v H1 e a => ⟨b, a, q H1 e⟩
theorem eb_and {c : Bool} (h1 : EvB K tt Γ b) (h2 : b = true → EvB K uu Γ c) : EvB K (tAnd tt uu) Γ (b && c) := fun σ H sa Q q => h1 σ H sa _ fun H1 e => by
  cases b with
  | true => exact iteT (h2 rfl σ H1 (sa.mono e) Q fun H2 e2 => q H2 (e.trans e2))
  | false => exact iteF (q H1 e)
theorem eb_or {c : Bool} (h1 : EvB K tt Γ b) (h2 : b = false → EvB K uu Γ c) : EvB K (tOr tt uu) Γ (b || c) := fun σ H sa Q q => h1 σ H sa _ fun H1 e => by
  cases b with
  | true => exact iteT (q H1 e)
  | false => exact iteF (h2 rfl σ H1 (sa.mono e) Q fun H2 e2 => q H2 (e.trans e2))
theorem eb_not (h : EvB K tt Γ b) : EvB K (tNot tt) Γ (!b) := fun σ H sa Q q => h σ H sa _ fun H1 e => q H1 e
theorem ev_if (h : EvB K tt Γ b) (h1 : b = true → Ev K ta Γ d) (h2 : b = false → Ev K tb Γ d) : Ev K (tIf tt ta tb) Γ d := fun σ H sa Q q => h σ H sa _ fun H1 e => by
  cases b with
  | true => exact iteT (h1 rfl σ H1 (sa.mono e) Q fun v H2 e2 a => q v H2 (e.trans e2) a)
  | false => exact iteF (h2 rfl σ H1 (sa.mono e) Q fun v H2 e2 a => q v H2 (e.trans e2) a)
theorem evp_if (h : EvB K tt Γ b) (h1 : b = true → EvP K ta Γ P) (h2 : b = false → EvP K tb Γ P) : EvP K (tIf tt ta tb) Γ P := fun σ H sa Q q => h σ H sa _ fun H1 e => by
  cases b with
  | true => exact iteT (h1 rfl σ H1 (sa.mono e) Q fun v H2 d p e2 a => q v H2 d p (e.trans e2) a)
  | false => exact iteF (h2 rfl σ H1 (sa.mono e) Q fun v H2 d p e2 a => q v H2 d p (e.trans e2) a)
/-- a value that is then used -/
theorem evp_op {r : R2} {P1 : D → Prop} (ha : EvP K ta Γ P1) (hb : Ev K tb Γ d2) (hr : ∀ d1, P1 d1 → ∃ d, P d ∧ RD K r d1 d2 d) : EvP K (tOp r ta tb) Γ P := fun σ H sa Q q =>
  ha σ H sa _ fun x H1 d1 p e1 a1 => hb σ H1 (sa.mono e1) _ fun y H2 e2 a2 => by
    obtain ⟨d, pd, rd⟩ := hr d1 p
    exact rd x y H2 (At.mono e2 a1) a2 Q fun v H3 e3 a3 => q v H3 d pd ((e1.trans e2).trans e3) a3
/-! ### statements -/
def QS (K : PySem.W.Frag) (t : TS) (Γ : Gm) (nx : Gm → Prop) (rt : D → Prop) : Prop := ∀ σ H (E : Ends), SA K H σ Γ →
  (∀ Γ' σ' H', nx Γ' → Same H H' → SA K H' σ' Γ' → E.nx σ' H') → (∀ d v H', rt d → Same H H' → At K H' d v → E.rt v H') → t E σ H
def GD (K : PySem.W.Frag) (g : TG) (d : D) (Γ : Gm) (nx : Gm → Prop) : Prop := ∀ v σ H Q, SA K H σ Γ → At K H d v → (∀ Γ' σ' H', nx Γ' → Same H H' → SA K H' σ' Γ' → Q σ' H') → g v σ H Q
def GDs (K : PySem.W.Frag) (g : TGs) (ds : List D) (Γ : Gm) (nx : Gm → Prop) : Prop := ∀ vs σ H Q, SA K H σ Γ → AtL K H ds vs → (∀ Γ' σ' H', nx Γ' → Same H H' → SA K H' σ' Γ' → Q σ' H') → g vs σ H Q
variable {nx : Gm → Prop} {rt : D → Prop} {t u : TS} {g : TG} {gs : TGs}
theorem q_seq (h : QS K t Γ (fun Γ' => QS K u Γ' nx rt) rt) : QS K (tSeq t u) Γ nx rt := fun σ H E sa n r =>
  h σ H { E with nx := u E } sa (fun Γ' σ' H' q e sa' => q σ' H' E sa' (fun Γ2 σ2 H2 a e2 b => n Γ2 σ2 H2 a (e.trans e2) b) fun d v H2 a e2 b => r d v H2 a (e.trans e2) b) r
theorem q_next (h : nx Γ) : QS K tNext Γ nx rt := fun σ H E sa n r => n Γ σ H h (Same.refl H) sa
theorem q_asgP (h : EvP K te Γ P) (hg : ∀ d, P d → GD K g d Γ nx) : QS K (tAsg te g) Γ nx rt := fun σ H E sa n r =>
  h σ H sa _ fun v H1 d p e a => hg d p v σ H1 _ (sa.mono e) a fun Γ' σ' H' q e' sa' => n Γ' σ' H' q (e.trans e') sa'
theorem q_asg (h : Ev K te Γ d) (hg : GD K g d Γ nx) : QS K (tAsg te g) Γ nx rt := q_asgP h.p fun d' e => by rw [e]; exact hg
theorem gd_name {i : Nat} (h : nx (Γ.set i (some d))) : GD K (gName i) d Γ nx := fun v σ H Q sa a q => q _ _ H h (Same.refl H) (sa.set a)
theorem gds_nil (h : nx Γ) : GDs K gNil [] Γ nx := fun vs σ H Q sa a q => ⟨a, q Γ σ H h (Same.refl H) sa⟩
theorem gds_cons (h : GD K g d Γ (fun Γ' => GDs K gs ds Γ' nx)) : GDs K (gCons g gs) (d :: ds) Γ nx := fun vs σ H Q sa a q => by
  obtain ⟨v, r, e, a1, a2⟩ := a
  refine ⟨v, r, e, h v σ H _ sa a1 fun Γ' σ' H' n e' sa' => ?_⟩
  exact n r σ' H' Q sa' (AtL.mono e' a2) fun Γ2 σ2 H2 n2 e2 sa2 => q Γ2 σ2 H2 n2 (e'.trans e2) sa2
theorem gd_tup {n : Nat} (hl : ds.length = n) (h : GDs K gs ds Γ nx) : GD K (gTup K n gs) (.tup ds) Γ nx := fun v σ H Q sa a q => by
  obtain ⟨p, xs, e, hs, al⟩ := a
  exact ⟨p, xs, e, .inl hs, by rw [AtL.len al, hl], h xs σ H Q sa al q⟩
theorem q_set {i : Nat} (h : Ev K te Γ d) (hn : nx (Γ.set i (some d))) : QS K (tAsg te (gName i)) Γ nx rt := q_asg h (gd_name hn)
theorem q_ret (h : EvP K te Γ P) (hp : ∀ d, P d → rt d) : QS K (tRet te) Γ nx rt := fun σ H E sa n r => h σ H sa _ fun v H1 d p e a => r d v H1 (hp d p) e a
theorem q_retD (h : Ev K te Γ d) (hp : rt d) : QS K (tRet te) Γ nx rt := q_ret h.p fun d' e => by rw [e]; exact hp
theorem q_if (h : EvB K tt Γ b) (h1 : b = true → QS K t Γ nx rt) (h2 : b = false → QS K u Γ nx rt) : QS K (tIfS tt t u) Γ nx rt := fun σ H E sa n r => h σ H sa _ fun H1 e => by
  cases b with
  | true => exact iteT (h1 rfl σ H1 E (sa.mono e) (fun Γ' σ' H' a e' c => n Γ' σ' H' a (e.trans e') c) fun d v H' a e' c => r d v H' a (e.trans e') c)
  | false => exact iteF (h2 rfl σ H1 E (sa.mono e) (fun Γ' σ' H' a e' c => n Γ' σ' H' a (e.trans e') c) fun d v H' a e' c => r d v H' a (e.trans e') c)
theorem q_par {i j : Nat} {ta : TA} (h : EvA K ta Γ [d1, d2]) (hn : nx ((Γ.set i (some d1)).set j (some d2))) : QS K (tPar i j ta) Γ nx rt := fun σ H E sa n r =>
  h σ H sa _ fun vs H1 e a => by
    obtain ⟨v, r1, e1, a1, w, r2, e2, a2, e3⟩ := a
    exact ⟨v, w, by rw [e1, e2, show r2 = [] from e3], n _ _ H1 hn e ((sa.mono e).set a1 |>.set a2)⟩
theorem QS.imp {nx' : Gm → Prop} {rt' : D → Prop} (h : QS K t Γ nx rt) (hn : ∀ Γ, nx Γ → nx' Γ) (hr : ∀ d, rt d → rt' d) : QS K t Γ nx' rt' := fun σ H E sa n r =>
  h σ H E sa (fun Γ' σ' H' a => n Γ' σ' H' (hn _ a)) fun d v H' a => r d v H' (hr d a)
/-- for over a tuple: I says which slots are possible ahead of turn i -/
theorem q_forT {tl : TE} {tb : TS} (I : Nat → Gm → Prop) (hl : Ev K tl Γ (.tup ds)) (h0 : I 0 Γ)
    (hs : ∀ i d Γ, ds[i]? = some d → I i Γ → GD K g d Γ (fun Γ' => QS K tb Γ' (I (i + 1)) rt)) (hd : ∀ Γ, I ds.length Γ → nx Γ) : QS K (tFor (iTup K tl) g tb) Γ nx rt := fun σ H E sa n r =>
  hl σ H sa _ fun x H1 e1 a1 => by
    obtain ⟨p, xs, ex, hq, al⟩ := a1
    have hlen := AtL.len al
    have hq : SqT K H1 p xs := .inl hq
    refine ⟨p, ex, ⟨xs, hq⟩, fun i m σ' H' => m = ds.length - i ∧ i ≤ ds.length ∧ Same H1 H' ∧ ∃ Γ', I i Γ' ∧ SA K H' σ' Γ', ⟨ds.length, by simp, Nat.zero_le _, Same.refl _, Γ, h0, sa.mono e1⟩, ?_⟩
    rintro i m σ' H' ⟨rfl, hi, e2, Γ', hI, sa'⟩
    have q' := Same.tupS e2 hq
    have al' := AtL.mono e2 al
    by_cases hlt : i < ds.length
    · have hxi : xs[i]? = some xs[i] := List.getElem?_eq_getElem (by omega)
      refine .inr ⟨⟨xs, xs[i], q', hxi⟩, fun σ2 H2 => Same H1 H2 ∧ ∃ Γ2, I (i + 1) Γ2 ∧ SA K H2 σ2 Γ2, fun σ2 H2 ⟨e3, Γ2, i2, s2⟩ => ⟨ds.length - (i + 1), by omega, rfl, hlt, e3, Γ2, i2, s2⟩, fun x H3 y => ?_⟩
      obtain ⟨eH, y⟩ := y
      subst eH
      have y := y xs q'
      obtain ⟨d, hd', ad⟩ := AtL.back al' y
      refine hs i d Γ' hd' hI x σ' H3 _ sa' ad fun Γ2 σ2 H2 q2 e3 sa2 => ?_
      refine q2 σ2 H2 _ sa2 (fun Γ3 σ3 H4 i3 e4 sa3 => ⟨(e2.trans e3).trans e4, Γ3, i3, sa3⟩) fun d v H4 a e4 c => r d v H4 a (((e1.trans e2).trans e3).trans e4) c
    · have e : i = ds.length := by omega
      subst e
      exact .inl ⟨⟨xs, q', by omega⟩, n Γ' σ' H' (hd Γ' hI) (e1.trans e2) sa'⟩
end
end Wk
set_option Elab.async false
set_option linter.all false
set_option maxRecDepth 100000
/-! a, b, *rest = a tuple -/
namespace Wk
open PySem PySem.Spec PyProof.Rows L2
section
variable {prog : Program} {w : World} {A : Around} {E : Value → Shared → Prop} {s : Shared}
theorem Walks.tupleFrom (hh : A.handled = none) (I ax : Addr) (hne : ax ≠ I) (items : Array Value) (k : Nat) (hk : k ≤ items.size) :
    Walks prog w A I [I, ax] [I] (items.size - k) (fun i v => items[k + i]? = some v) (fun i h => h.IsTupleIter I ax (k + i) ∧ h.IsTuple ax items) where
  sub := fun b hb => by simp at hb; simp [hb]
  frame := fun _ _ _ st hk => ⟨st.1.at fun o e => hk I (by simp) o e, st.2.at fun o e => hk ax (by simp) o e⟩
  item := fun i s Q E hi st hQ => by
    refine wpAny_pyNext_tuple_item st.1 st.2 (x := items[k + i]) (by simp [show k + i < items.size by omega]) fun h' hit' hs' => ?_
    exact hQ _ h' s.toks (by simp [show k + i < items.size by omega]) ⟨hit', st.2.extBut hs'.extBut hne⟩ fun b o hb e => hs'.extBut b o (fun h => hb (by simp [h])) e
  done := fun s Q E st hQ => by
    refine wpAny_pyNext_tuple_end hh st.1 st.2 (by rw [show k + (items.size - k) = items.size by omega]; simp) fun h' he' => hQ h' s.toks fun b o hb e => he' b o (fun h => hb (by simp [h])) e
  self := fun _ _ _ _ st hQ => wpAny_pyIter_tupleiter st.1 hQ
theorem unpackItems_star {t : Addr} {items : Array Value} {n i : Nat} {Q : List Value → Shared → Prop} (hh : A.handled = none) (ht : IsTup s.heap t items) (hz : items.size ≤ sizeLine) (hi : i ≤ items.size) (hn : n = i + 1)
    (hQ : ∀ (s' : Shared), s'.gens = s.gens → s'.os = s.os → s'.drawn = s.drawn → (∀ b o, s.heap.get? b = some o → s'.heap.get? b = some o) →
      Q (items.toList.take i ++ [.ref s'.heap.objs.size]) { s' with heap := s'.heap.push { cls := .type "list", data := .seq (items.toList.drop i).toArray } }) :
    wpAny (model prog w) A (unpackItems (.ref t) n (some i)) Q E s := by
  subst hn
  have hlt : t ≠ s.heap.objs.size := by obtain ⟨o, ho, _⟩ := ht; exact Nat.ne_of_lt (Heap.lt_size ho)
  unfold unpackItems
  refine wpAny_bind ?_
  unfold notIterableAtAll
  refine wpAny_bind (wpAny_specialOf ht.typeIs slot_tuple_iter.lookup ?_)
  refine wpAny_pure ?_
  simp only [Bool.false_eq_true, if_false]
  refine wpAny_bind (wpAny_holding (iter_tuple ht ?_))
  refine wpAny_bind (wpAny_holding (draw_tuple hlt i 0 _ _ ⟨_, Heap.get?_push_size _ rfl, rfl, rfl⟩ (ht.push _) (by omega) fun h₁ hit₁ hs₁ => ?_))
  rw [List.drop_zero]
  have hl : (items.toList.take i).length = i := by rw [List.length_take, Array.length_toList]; omega
  rw [if_neg (by rw [hl]; omega)]
  have ht₁ : IsTup h₁ t items := (ht.push _).extBut hs₁.extBut hlt
  rw [Nat.zero_add] at hit₁
  have W := Walks.toS (Walks.tupleFrom (prog := prog) (w := w) (A := A.in1) hh s.heap.objs.size t hlt items i hi)
  have hsz : s.heap.objs.size < h₁.objs.size := by obtain ⟨o, ho, _⟩ := hit₁; exact Heap.lt_size ho
  refine wpAny_bind (wpAny_holding (wpAny_collect_iter (T := "tuple_iterator") (.inr (.inr (.inr rfl))) W (fun j s' st => ?_) ⟨hit₁, ht₁⟩ (fun b hb => ?_) (by simp) (fun s' acc mv hacc => ?_) (by omega)))
  · obtain ⟨o, ho, hc, _⟩ := st.1
    exact ⟨o, ho, hc⟩
  · simp at hb
    rcases hb with e | e
    · rw [e]; exact hsz
    · obtain ⟨o, ho, _⟩ := ht₁
      rw [e]; exact Heap.lt_size ho
  · have hacc2 : acc = (items.toList.drop i).toArray := by
      refine Array.ext (by rw [hacc.1]; simp) fun j h1 h2 => ?_
      have q : items[i + j]? = some acc[j] := hacc.2 j acc[j] (by simp [h1])
      have hj : i + j < items.size := by rw [hacc.1] at h1; omega
      rw [Array.getElem?_eq_getElem hj] at q
      have q := Option.some.inj q
      rw [← q]
      simp
    have hal : acc.toList.length = items.size - i := by rw [Array.length_toList]; exact hacc.1
    rw [show i + 1 - 1 - i = 0 by omega]
    rw [if_neg (by omega)]
    show wpAny _ _ (newList (acc.toList.take (acc.toList.length - 0)) >>= _) _ _ s'
    rw [Nat.sub_zero, List.take_length]
    have hsize : acc.toList.toArray.size ≤ sizeLine := by rw [List.size_toArray, hal]; omega
    refine wpAny_bind (wpAny_newObj_type ?_ hsize)
    refine wpAny_pure ?_
    rw [List.drop_length, List.append_nil]
    have hkp : ∀ b o, s.heap.get? b = some o → s'.heap.get? b = some o := fun b o e => mv.heap b o (by
      have := Heap.lt_size e
      simp
      exact Nat.ne_of_lt this) (hs₁.extBut b o (Nat.ne_of_lt (Heap.lt_size e)) (Heap.get?_push_of_some _ e))
    have := hQ s' mv.gens mv.os mv.drawn hkp
    rw [hacc2]
    exact this
end
section
variable {X : Cx} {pos : Pos}
theorem pgs_star {e : Expr} {es : List Expr} {p : Pos} {t : TG} {u : TGs} (h1 : PG X e t) (h2 : PGs X es u) : PGs X (.Starred e p :: es) (gCons t u) := by
  refine ⟨fun pins s σ H vs us Q I r h => ?_⟩
  obtain ⟨v, vr, e1, h⟩ := h
  subst e1
  cases r with
  | cons r rr =>
    show wpAny _ _ (assignInOrder (assign e X.env :: (assignEach es X.env).map (·.2)) _) _ _ _
    refine assignInOrder_cons (thn (h1.run pins s σ H _ _ _ I r h) fun _ s1 ⟨σ1, H1, I1, q1⟩ => ?_)
    exact h2.run pins s1 σ1 H1 _ _ Q I1 rr q1
def gStar (K : PySem.W.Frag) (n : Nat) (t : TGs) : TG := fun v σ H Q => ∃ a xs, v = .ref a ∧ SqT K H a xs ∧ n ≤ xs.length ∧ ∀ p, H p = none → t (xs.take n ++ [.ref p]) σ (L2.upd H p (.lst (xs.drop n))) Q
theorem pg_star {es : List Expr} {k : Nat} {t : TGs} {n : Nat} (hc : X.calm = true) (h : PGs X es t)
    (hn : (assignEach es X.env).length = n + 1 := by rfl) (hst : (assignEach es X.env).findIdx? (·.1) = some n := by rfl) : PG X (.Tuple es k pos) (gStar X.K n t) := by
  refine ⟨fun pins s σ H v u Q I r hw => ?_⟩
  obtain ⟨a, xs, e1, hq, hl, hw⟩ := hw
  subst e1
  cases r
  obtain ⟨its, rv, ht, hz⟩ := I.tuple hq
  have hlen : its.length = xs.length := rv.length.symm
  rw [assign_Tuple]
  refine wpAny_bind (wpAny_standAt ?_)
  unfold unpack
  rw [hn, hst]
  refine wpAny_bind (wpAny_holding (unpackItems_star (I.ok.hd hc) ht (by rw [List.size_toArray]; omega) (by rw [List.size_toArray]; omega) rfl fun s' eg eo ed hk => ?_))
  have I1 : Inv X pins σ H s' := by
    have := I.kept (h' := s'.heap) (t' := s'.toks) hk
    obtain ⟨h', g', d', t', o'⟩ := s'
    have eg : g' = s.gens := eg
    have eo : o' = s.os := eo
    have ed : d' = s.drawn := ed
    subst eg eo ed
    exact this
  have hp : H s'.heap.objs.size = none := I1.hok.fresh (Nat.le_refl _)
  have rd : Vals (xs.drop n) (its.drop n) := rv.drop n
  have hzx : xs.length ≤ sizeLine := by omega
  have I2 : Inv X pins σ (L2.upd H s'.heap.objs.size (.lst (xs.drop n))) { s' with heap := s'.heap.push { cls := .type "list", data := .seq (its.toArray.toList.drop n).toArray } } :=
    I1.laid (t' := s'.toks) (fun b o e => Heap.get?_push_of_some _ e) (Nat.le_refl _) ⟨by rw [List.length_drop]; omega, its.drop n, 0, rd, Heap.get?_push_size _ rfl⟩
  exact h.run pins _ σ _ _ _ Q I2 (Vals.append (rv.take n) (show Vals [V.ref s'.heap.objs.size] [Value.ref s'.heap.objs.size] from .cons rfl .nil)) (hw _ hp)
end
section
variable {K : PySem.W.Frag} {Γ : Gm} {ds : List D} {nx : Gm → Prop} {gs : TGs}
theorem gd_star {n : Nat} (hl : n ≤ ds.length) (h : GDs K gs (ds.take n ++ [.lst (ds.drop n)]) Γ nx) : GD K (gStar K n gs) (.tup ds) Γ nx := fun v σ H Q sa a q => by
  obtain ⟨p, xs, e, hs, al⟩ := a
  refine ⟨p, xs, e, .inl hs, by rw [AtL.len al]; exact hl, fun r hr => ?_⟩
  have e1 : Same H (L2.upd H r (.lst (xs.drop n))) := Same.new hr
  exact h _ σ _ Q (sa.mono e1) (AtL.append (AtL.mono e1 (AtL.take n al)) (AtL.one (At.lst_new hr (AtL.drop n al)))) fun Γ' σ' H' a e2 b => q Γ' σ' H' a (e1.trans e2) b
end
end Wk
set_option Elab.async false
set_option linter.all false
set_option maxRecDepth 100000
set_option maxHeartbeats 1000000
/-! sorted of pairs: of a tuple, of d.items() -/
namespace Wk
open PySem PySem.Spec PyProof.Rows L2 SrtO
def abx : List Str := ["a", "b", "x"]
def rank (z : Str) : Int := if z = "a" then 0 else if z = "b" then 1 else 2
theorem rank_lt : ∀ x ∈ abx, ∀ y ∈ abx, decide (x.cps.toList < y.cps.toList) = decide (rank x < rank y) := by decide +kernel
theorem rank_eq : ∀ x ∈ abx, ∀ y ∈ abx, (x = y ↔ rank x = rank y) := by decide +kernel
/-- the first of a pair: an int, or one of three texts -/
def Fst : Bool → Value → Int → Prop
  | true, f, x => ∃ t, f = .int x t
  | false, f, x => ∃ z t, f = .str z t ∧ z ∈ abx ∧ rank z = x
def IsPairG (ty : Bool) (h : Heap) (v : Value) (x y : Int) : Prop := ∃ a o f u n, v = .ref a ∧ h.get? a = some o ∧ o.cls = .type "tuple" ∧ o.data = .seq #[f, .int y u] n ∧ Fst ty f x
theorem IsPairG.keeps {ty : Bool} {h h' : Heap} {v : Value} {x y : Int} (p : IsPairG ty h v x y) (k : ∀ b o, h.get? b = some o → o.cls = .type "tuple" → h'.get? b = some o) : IsPairG ty h' v x y := by
  obtain ⟨a, o, f, u, n, e, ho, hc, hd, hf⟩ := p
  exact ⟨a, o, f, u, n, e, k _ _ ho hc, hc, hd, hf⟩
section
variable {prog : Program} {w : World} {A : Around} {E : Value → Shared → Prop} {s : Shared}
theorem IsPairG.ints {h : Heap} {v : Value} {x y : Int} (p : IsPairG true h v x y) : Srt.IsPair h v x y :=
  let ⟨a, o, _, u, n, e, ho, hc, hd, t, hf⟩ := p
  ⟨a, o, t, u, n, e, ho, hc, by rw [hd, hf]⟩
/-- what is left of a comparison of pairs where the first ones are equal -/
theorem kat_snd {y y' : Int} {u u' : Tok} {b : Bool} (hb : b = decide (y < y')) : PySem.W.KatLex prog w A true (decide (2 < 2)) (fun r s' => s' = s ∧ r = b) [(.int y u, .int y' u')] (0 + 1) s := by
  subst hb
  exact PySem.W.kat_cons (SeqAt.EqAt.int_int y u y' u' prog w _ _ (PySem.W.kat_go (fun same => PySem.W.kat_yes (PySem.W.kat_nil ⟨rfl, by simp [show y = y' by simpa using same]⟩)) fun _ => PySem.W.kat_no (PySem.W.kat_one _ _ (PyProof.Rows.lt_int ⟨rfl, rfl⟩))))
theorem pair_cmpG {ty : Bool} {vs : List Value} {k : Value → Int × Int} (hp : ∀ v ∈ vs, IsPairG ty s.heap v (k v).1 (k v).2) : Cmp prog w A s (tuples' true) (fun p => p.1 ∈ vs) (lt2 fun v u => lexB (k v) (k u)) := by
  cases ty with
  | true => exact SrtO.pair_cmp fun v m => (hp v m).ints
  | false =>
    rintro ⟨p, p2⟩ ⟨q, q2⟩ (mp : p ∈ vs) (mq : q ∈ vs)
    obtain ⟨a, o, _, u, n, ep, ho, _, hd, z, t, rfl, hz, rz⟩ := hp p mp
    obtain ⟨a', o', _, u', n', eq, ho', _, hd', z', t', rfl, hz', rz'⟩ := hp q mq
    show wpAny (model prog w) A (keyLt' (tuples' true) p q) (fun r s' => s' = s ∧ r = lexB (k p) (k q)) (fun _ _ => False) s
    have same : z = z' → lexB (k p) (k q) = decide ((k p).2 < (k q).2) := fun z0 => if_pos (by rw [← rz, ← rz', z0])
    have other : ¬ z = z' → lexB (k p) (k q) = decide (z.cps.toList < z'.cps.toList) := fun z0 =>
      (if_neg fun x => z0 ((rank_eq z hz z' hz').mpr (by rw [rz, rz']; exact x))).trans (by rw [rank_lt z hz z' hz', rz, rz'])
    generalize lexB (k p) (k q) = b at same other ⊢
    rw [ep, eq]
    exact PySem.W.kat_lt ho hd ho' hd' (PySem.W.kat_cons (SeqAt.EqAt.str_str z t z' t' prog w _ _ (PySem.W.kat_go (fun e => PySem.W.kat_yes (kat_snd (same (by simpa using e)))) fun e => PySem.W.kat_no (PyProof.Rows.oneLt_str ⟨rfl, (other (by simpa using e)).symm⟩))))
theorem firsts_ofG {ty : Bool} {h : Heap} : ∀ {vs : List Value}, (∀ v ∈ vs, ∃ x y, IsPairG ty h v x y) → ∃ fs : List Value, PySem.W.KatTups h vs fs ∧ fs.length = vs.length ∧ ∀ f ∈ fs, ∃ x, Fst ty f x
  | [], _ => ⟨[], PySem.W.KatTups.nil, rfl, fun _ hm => by simp at hm⟩
  | v :: vs, hp => by
    obtain ⟨fs, h1, h2, h3⟩ := firsts_ofG (vs := vs) fun v' hm => hp v' (List.mem_cons_of_mem _ hm)
    obtain ⟨x, y, a, o, f, u, n, e, ho, hc, hd, hf⟩ := hp v (List.mem_cons_self ..)
    subst e
    refine ⟨f :: fs, PySem.W.KatTups.cons ho hc hd rfl h1, by rw [List.length_cons, List.length_cons, h2], fun f' hm => ?_⟩
    rcases List.mem_cons.mp hm with rfl | hm
    · exact ⟨x, hf⟩
    · exact h3 f' hm
theorem sortableG {ty : Bool} {a : Addr} {vs : List Value} {k : Value → Int × Int} (h0 : 0 < vs.length) (hp : ∀ v ∈ vs, IsPairG ty s.heap v (k v).1 (k v).2) (ha : ∀ o, s.heap.get? a = some o → o.cls ≠ .type "tuple") : SortableO prog w A s a vs fun v u => lexB (k v) (k u) := by
  intro h' keep
  have hp' : ∀ v ∈ vs, IsPairG ty h' v (k v).1 (k v).2 := fun v hm => (hp v hm).keeps fun b o e c => keep b o (fun z => by subst z; exact ha o e c) e
  obtain ⟨fs, h1, h2, h3⟩ := firsts_ofG fun v hm => ⟨_, _, hp' v hm⟩
  refine ⟨tuples' true, fun Q E hq => ?_, pair_cmpG hp'⟩
  cases ty with
  | true =>
    refine PySem.W.kat_kind (T := .type "int") h1 (by omega) (fun f hm => ?_) (by rfl) ?_
    · obtain ⟨x, t, rfl⟩ := h3 f hm
      exact PySem.W.Looks.now
    · have e : (Value.type "int" != Value.type "tuple") = true := by first | decide +kernel | rfl | decide
      rw [e]
      exact hq
  | false =>
    refine PySem.W.kat_kind (T := .type "str") h1 (by omega) (fun f hm => ?_) (by rfl) ?_
    · obtain ⟨x, z, t, rfl, _⟩ := h3 f hm
      exact PySem.W.Looks.now
    · have e : (Value.type "str" != Value.type "tuple") = true := by first | decide +kernel | rfl | decide
      rw [e]
      exact hq
/-- list.sort of a new list of pairs, at its end -/
theorem sort_new {ty : Bool} {vs : List Value} {k : Value → Int × Int} {Q : Value → Shared → Prop} (hz : vs.length ≤ sizeLine) (hp : ∀ v ∈ vs, IsPairG ty s.heap v (k v).1 (k v).2)
    (h : ∀ (h' : Heap) (out : List Value), Srtd (fun v u => lexB (k v) (k u)) out → Stb (fun v u => lexB (k v) (k u)) out vs → (∀ b o, s.heap.get? b = some o → h'.get? b = some o) → (∃ n, h'.get? s.heap.objs.size = some (seqObj "list" out.toArray n)) → Q .none { s with heap := h' }) :
    wpAny (model prog w) A (call (.builtin "list.sort") [.ref s.heap.objs.size]) Q E { s with heap := s.heap.push { cls := .type "list", data := .seq vs.toArray } } := by
  have hoL : (s.heap.push (seqObj "list" vs.toArray 0)).get? s.heap.objs.size = some (seqObj "list" vs.toArray 0) := Heap.get?_push_size _ rfl
  have kp : ∀ b o, s.heap.get? b = some o → (s.heap.push (seqObj "list" vs.toArray 0)).get? b = some o := fun b o e => Heap.get?_push_of_some _ e
  show wpAny (model prog w) A (call (.builtin "list.sort") [.ref s.heap.objs.size]) Q E { s with heap := s.heap.push (seqObj "list" vs.toArray 0) }
  refine wpAny_call_entry slot_list_sort ⟨_, hoL, rfl⟩ entry_list_sort (list_sort_ord (s := { s with heap := s.heap.push (seqObj "list" vs.toArray 0) }) (swo_lex k) hoL hz (fun h2 => ?_) fun out hs hb => ⟨_, rfl, ?_⟩) (args_list_sort _)
  · refine sortableG (s := { s with heap := s.heap.push (seqObj "list" vs.toArray 0) }) (by omega) (fun v hm => (hp v hm).keeps fun b o e _ => kp b o e) fun o e => ?_
    have e' : some o = some (seqObj "list" vs.toArray 0) := e.symm.trans hoL
    cases e'
    intro c
    exact absurd (Value.type.inj c) (by decide)
  · refine h _ out hs hb (fun b o e => ?_) (PyProof.Rows.sortedHeap_at (vs := vs) (out := out.toArray) hoL)
    exact (PyProof.Rows.sortedHeap_old (Nat.ne_of_lt (Heap.lt_size e)) (Heap.lt_size (kp b o e))).trans (kp b o e)
/-- sorted of a tuple -/
theorem sorted_tupG {ty : Bool} {l : Addr} {items : Array Value} {k : Value → Int × Int} {Q : Value → Shared → Prop} (hl : IsTup s.heap l items) (hz : items.size ≤ sizeLine) (hp : ∀ v ∈ items.toList, IsPairG ty s.heap v (k v).1 (k v).2)
    (h : ∀ (h1 h' : Heap) (out : List Value), Srtd (fun v u => lexB (k v) (k u)) out → Stb (fun v u => lexB (k v) (k u)) out items.toList → (∀ b o, s.heap.get? b = some o → h1.get? b = some o) → (∀ b o, h1.get? b = some o → h'.get? b = some o) → (∃ n, h'.get? h1.objs.size = some (seqObj "list" out.toArray n)) → Q (.ref h1.objs.size) { s with heap := h' }) :
    wpAny (model prog w) A (call (.builtin "sorted") [.ref l]) Q E s := by
  refine Calls.call_function_entry kind_sorted plain_sorted entry_sorted (args_sorted1 _) ?_
  unfold Builtin.«sorted»
  refine wpAny_bind (m := checkCount "sorted" 1 1 _) (wpAny_pure ?_)
  obtain ⟨o, ho, hc, n, hd⟩ := hl
  refine wpAny_bind (wpAny_collect_seq l (.inr rfl) ho hc hd (fun h' hk => ?_) hz)
  refine wpAny_bind (wpAny_newList ?_ (by rw [Array.length_toList]; exact hz))
  refine wpAny_bind (wpAny_holding ?_)
  refine sort_new (s := { s with heap := h' }) (by rw [Array.length_toList]; exact hz) (fun v hv => (hp v hv).keeps fun b o e _ => hk b o e) fun h2 out a1 a2 a3 a4 => ?_
  exact wpAny_pure ⟨_, rfl, h h' h2 out a1 a2 hk a3 a4⟩
/-- sorted(d.items()) -/
theorem sorted_itemsG {ty : Bool} {r d : Addr} {es : Array DictEntry} {ep : Nat} {Q : Value → Shared → Prop} (hh : A.handled = none) (hv : s.heap.IsItemsView r d) (hm : DT.Raw s.heap d es ep) (hn : es.size ≤ sizeLine)
    (hp : ∀ (h1 : Heap) (as : List Addr), (∀ b o, s.heap.get? b = some o → h1.get? b = some o) → s.heap.objs.size < h1.objs.size → as.length = es.size → DT.Made es s.heap.objs.size h1 as → ∃ k : Value → Int × Int, (∀ v ∈ as.map Value.ref, IsPairG ty h1 v (k v).1 (k v).2) ∧
      ∀ (h' : Heap) (tk : Nat) (out : List Value), Srtd (fun v u => lexB (k v) (k u)) out → Stb (fun v u => lexB (k v) (k u)) out (as.map Value.ref) → (∀ b o, h1.get? b = some o → h'.get? b = some o) → (∃ n, h'.get? h1.objs.size = some (seqObj "list" out.toArray n)) → Q (.ref h1.objs.size) { s with heap := h', toks := tk }) :
    wpAny (model prog w) A (call (.builtin "sorted") [.ref r]) Q E s := by
  refine DT.sortedI (es := es) (ep := ep) hh hv hm hn fun h1 tk as hk hlt hl hG => ?_
  obtain ⟨k, p1, p2⟩ := hp h1 as hk hlt hl hG
  exact sort_new (s := { s with heap := h1, toks := tk }) (by rw [List.length_map, hl]; exact hn) p1 fun h' out a1 a2 a3 a4 => p2 h' tk out a1 a2 a3 a4
end
/-- by the first, texts by their rank -/
def kr : Key → Int
  | .inl i => i | .inr z => rank z
def good : Bool → Key → Prop
  | true, .inl _ => True | false, .inr z => z ∈ abx | _, _ => False
def le2 (a b : Key × Int) : Prop := lexB (kr b.1, b.2) (kr a.1, a.2) = false
section
variable {X : Cx}
theorem isPairG_of {ty : Bool} {pins : List (Addr × Obj)} {σ : L2.St} {H : Hp} {s : Shared} (I : Inv X pins σ H s) {t : Addr} {k : Key} {n : Int} (hs : SqT X.K H t [kV k, .int n]) (hg : good ty k) : IsPairG ty s.heap (.ref t) (kr k) n := by
  obtain ⟨its, rv, ⟨o, ho, hc, m, hd⟩, hz⟩ := I.tuple hs
  obtain ⟨u1, u2, rfl, r1, r2⟩ := vals2 rv
  obtain ⟨t2, rfl⟩ := r2
  refine ⟨t, o, u1, t2, m, rfl, ho, hc, hd, ?_⟩
  cases k with
  | inl i =>
    obtain ⟨t1, rfl⟩ := r1
    cases ty with
    | true => exact ⟨t1, rfl⟩
    | false => exact hg.elim
  | inr z =>
    obtain ⟨t1, rfl⟩ := r1
    cases ty with
    | true => exact hg.elim
    | false => exact ⟨z, t1, rfl, hg, rfl⟩
/-- sorted of a tuple of pairs -/
def rSrtT (K : PySem.W.Frag) : List V → Hp → VK → Prop := fun vs H Q => ∃ (ty : Bool) (a : Addr) (xs : List V) (q : V → Key × Int), vs = [V.ref a] ∧ SqT K H a xs ∧ (∀ x ∈ xs, ∃ t, x = V.ref t ∧ SqT K H t [kV (q x).1, .int (q x).2] ∧ good ty (q x).1) ∧
  ∀ (ys : List V) (p : Addr), ys.Perm xs → (ys.map q).Pairwise le2 → H p = none → Q (.ref p) (L2.upd H p (.lst ys))
theorem cr_srtT : CallR X (.builtin "sorted") (rSrtT X.K) := by
  intro pins s σ H vs us Q I r h
  obtain ⟨ty, a, xs, q, rfl, hs, hx, hq⟩ := h
  obtain ⟨its, rv, ht, hz⟩ := I.tuple hs
  obtain ⟨u, rfl, ru⟩ := vals1 r
  obtain rfl : u = Value.ref a := ru
  obtain ⟨e1, e2⟩ := refs_back rv fun x m => by
    obtain ⟨t, e, _⟩ := hx x m
    exact ⟨t, e⟩
  refine sorted_tupG (ty := ty) (k := fun u => (kr (q (backV u)).1, (q (backV u)).2)) ht (by rw [List.size_toArray, ← rv.length]; exact hz) (fun v hv => ?_) fun h1 h' out a1 a2 hk hk2 hn => ?_
  · have hv : v ∈ its := by simpa using hv
    obtain ⟨t, rfl⟩ := e2 v hv
    have hm : V.ref t ∈ xs := by rw [e1]; exact List.mem_map.mpr ⟨_, hv, rfl⟩
    obtain ⟨t', e, ht, hg⟩ := hx _ hm
    cases e
    exact isPairG_of I ht hg
  · have pm : out.Perm its := by simpa using a2.perm
    have h3 : ∀ u ∈ out, ∃ a, u = Value.ref a := fun u hu => e2 u (pm.mem_iff.mp hu)
    obtain ⟨n, hn⟩ := hn
    have I1 : Inv X pins σ H { s with heap := h1 } := I.kept (t' := s.toks) hk
    have hf : H h1.objs.size = none := I1.hok.fresh (Nat.le_refl _)
    have pm2 : (out.map backV).Perm xs := by rw [e1]; exact pm.map backV
    refine ⟨.ref h1.objs.size, L2.upd H h1.objs.size (.lst (out.map backV)), I1.laid (t' := s.toks) hk2 (Nat.le_refl _) ⟨?_, out, n, vals_back h3, hn⟩, rfl, hq _ _ pm2 ?_ hf⟩
    · rw [pm2.length_eq]; exact hz
    · rw [List.map_map, List.pairwise_map]
      exact a1
/-- d.items() -/
def rItemsK : V → List V → Hp → VK → Prop := fun x xs H Q => ∃ (a : Addr) (kvs : List (Key × V)), x = .ref a ∧ xs = [] ∧ H a = some (.dK kvs) ∧ ∀ p, H p = none → Q (.ref p) (L2.upd H p (L2.DX.itemsO p a))
theorem mt_itemsK : MtR X "dict.items" rItemsK := by
  intro pins s σ H x xs v us Q I rx rxs h
  obtain ⟨a, kvs, rfl, rfl, ha, q⟩ := h
  cases rx
  cases rxs
  obtain ⟨z, hd, vs, kv, o, es, ep, ho, hx, hdat, _⟩ := dk_of I.hok ha
  refine DT.callItems (es := es) (ep := ep) hd ⟨o, ho, hx, hdat⟩ ?_
  have hf : H s.heap.objs.size = none := I.hok.fresh (Nat.le_refl _)
  exact ⟨.ref s.heap.objs.size, L2.upd H s.heap.objs.size (L2.DX.itemsO s.heap.objs.size a), I.laid (t' := s.toks) (fun b u e => Heap.get?_push_of_some _ e) (Nat.le_refl _) (L2.DX.itemsO_ok (Heap.get?_push_size _ rfl)), rfl, q _ hf⟩
/-- sorted(d.items()), d of ints or of three texts, its values ints -/
def rSrtI : List V → Hp → VK → Prop := fun vs H Q => ∃ (ty : Bool) (p a : Addr) (ps : List (Key × Int)), vs = [V.ref p] ∧ H p = some (L2.DX.itemsO p a) ∧ H a = some (.dK (ps.map fun q => (q.1, V.int q.2))) ∧ (∀ q ∈ ps, good ty q.1) ∧
  ∀ (H' : Hp) (l : Addr) (zs : List (Addr × (Key × Int))), Same H H' → (zs.map (·.2)).Perm ps → (zs.map (·.2)).Pairwise le2 → H l = none → H' l = some (.lst (zs.map fun z => V.ref z.1)) → (∀ z ∈ zs, H' z.1 = some (.tup [kV z.2.1, .int z.2.2])) → Q (.ref l) H'
theorem pairs_get {knd : KeyKind prog w Key} : ∀ {es : List DictEntry} {vs : List (Key × Value)} {j : Nat} {e : DictEntry}, Pairs knd es vs → es[j]? = some e → ∃ k, vs[j]? = some (k, e.val) ∧ knd.is k e.key = true
  | _, _, _, _, .nil, h => by simp at h
  | _, _, 0, e, .cons (e := e0) (kv := kv) h1 h2 _, h => by
    have : e0 = e := by simpa using h
    subst this
    exact ⟨kv.1, by rw [h2]; rfl, h1⟩
  | _, _, j + 1, e, .cons _ _ t, h => by
    obtain ⟨k, a, b⟩ := pairs_get (j := j) t (by simpa using h)
    exact ⟨k, by simpa using a, b⟩
theorem paired_back {α β : Type} {F : α → β → Prop} : ∀ {xs : List α} {ys : List β}, Paired F xs ys → ∀ {i : Nat} {y : β}, ys[i]? = some y → ∃ x, xs[i]? = some x ∧ F x y
  | _, _, .nil, i, x, h => by cases h
  | _, _, .cons r t, 0, x, h => by
    have e := Option.some.inj h
    subst e
    exact ⟨_, rfl, r⟩
  | _, _, .cons r t, i + 1, x, h => paired_back t h
theorem cr_srtI (hc : X.calm = true) : CallR X (.builtin "sorted") rSrtI := by
  intro pins s σ H xs us Q I r h
  obtain ⟨ty, p, a, ps, rfl, hp, ha, hg, q⟩ := h
  obtain rfl := Vals.ref1 r
  have view : s.heap.IsItemsView p a := (show ObjOk X.prog X.w H s.heap p (L2.DX.itemsO p a) from I.hok p _ hp).1
  obtain ⟨z, hd, vs, kv, o, es, ep, ho, hx, hdat, hko, hpr, hnd⟩ := dk_of I.hok ha
  have l1 : ps.length = vs.length := by have := Paired.length kv; rw [List.length_map] at this; exact this
  have l2 : es.size = vs.length := by have := hpr.length; rw [Array.length_toList] at this; exact this
  have hh : X.A.handled = none := I.ok.hd hc
  rw [List.length_map] at z
  refine sorted_itemsG (ty := ty) (es := es) (ep := ep) hh view ⟨o, ho, hx, hdat⟩ (by omega) fun h1 as hk hlt hl hG => ?_
  have lak : as.length = ps.length := by omega
  have nd : as.Nodup := List.Pairwise.imp (fun h => Nat.ne_of_lt h) hG.rise
  let ad : Value → Addr := fun v => match v with | .ref b => b | _ => 0
  let q2 : Value → Key × Int := fun v => ps.getD (as.idxOf (ad v)) (.inl 0, 0)
  have q2_at : ∀ (j : Nat) (b : Addr), as[j]? = some b → ps[j]? = some (q2 (.ref b)) := fun j b hj => by
    obtain ⟨hlt, e⟩ := List.getElem?_eq_some_iff.mp hj
    have ei : as.idxOf b = j := by rw [← e]; exact nd.idxOf_getElem j hlt
    show ps[j]? = some (ps.getD (as.idxOf b) (.inl 0, 0))
    rw [ei, List.getD_eq_getElem?_getD, List.getElem?_eq_getElem (by omega)]
    rfl
  -- the pairs that were made
  have pr : ∀ (j : Nat) (b : Addr), as[j]? = some b → ∃ (key : Value) (t : Tok), RelV (kV (q2 (.ref b)).1) key ∧ h1.get? b = some { cls := .type "tuple", data := .seq #[key, .int (q2 (.ref b)).2 t] } := by
    intro j b hj
    obtain ⟨en, he, hgt⟩ := hG.pairs j b hj
    obtain ⟨k, hv, hi⟩ := pairs_get hpr (j := j) (e := en) (by rw [Array.getElem?_toList]; exact he)
    obtain ⟨e0, he0, r1, r2⟩ := paired_back kv hv
    rw [List.getElem?_map, q2_at j b hj] at he0
    have he0 : ((q2 (.ref b)).1, V.int (q2 (.ref b)).2) = e0 := Option.some.inj he0
    subst he0
    obtain ⟨t, et⟩ : ∃ t, en.val = Value.int (q2 (.ref b)).2 t := r2
    refine ⟨en.key, t, ?_, by rw [hgt, et]⟩
    have r1 : (q2 (.ref b)).1 = k := r1
    rw [r1]
    rcases keyIs_shape (show keyIs k en.key = true from hi) with ⟨i, t1, e1, e2⟩ | ⟨x, t1, e1, e2⟩
    · rw [e1, e2]; exact ⟨t1, rfl⟩
    · rw [e1, e2]; exact ⟨t1, rfl⟩
  refine ⟨fun v => (kr (q2 v).1, (q2 v).2), fun v hv => ?_, fun h' tk out a1 a2 hk2 hn => ?_⟩
  · obtain ⟨b, hb, rfl⟩ := List.mem_map.mp hv
    obtain ⟨j, hj⟩ := List.mem_iff_getElem?.mp hb
    obtain ⟨key, t, rk, hb⟩ := pr j b hj
    have gd : good ty (q2 (.ref b)).1 := hg _ (List.mem_of_getElem? (q2_at j b hj))
    show IsPairG ty h1 (.ref b) (kr (q2 (.ref b)).1) (q2 (.ref b)).2
    generalize q2 (.ref b) = pq at rk hb gd ⊢
    obtain ⟨k, n⟩ := pq
    refine ⟨b, _, key, t, 0, rfl, hb, rfl, rfl, ?_⟩
    cases k with
    | inl i =>
      obtain ⟨t1, rfl⟩ := rk
      cases ty with
      | true => exact ⟨t1, rfl⟩
      | false => exact gd.elim
    | inr z =>
      obtain ⟨t1, rfl⟩ := rk
      cases ty with
      | true => exact gd.elim
      | false => exact ⟨z, t1, rfl, gd, rfl⟩
  · have pm : out.Perm (as.map Value.ref) := a2.perm
    have outr : ∀ v ∈ out, ∃ (j : Nat) (b : Addr), v = .ref b ∧ as[j]? = some b := fun v hv => by
      obtain ⟨b, hb, rfl⟩ := List.mem_map.mp (pm.mem_iff.mp hv)
      obtain ⟨j, hj⟩ := List.mem_iff_getElem?.mp hb
      exact ⟨j, b, rfl, hj⟩
    have kS : ∀ b o, s.heap.get? b = some o → h'.get? b = some o := fun b o e => hk2 b o (hk b o e)
    obtain ⟨eF, heF⟩ := hn
    have I1 : Inv X pins σ H { s with heap := h', toks := tk } := I.kept (t' := tk) kS
    have hn0 : H h1.objs.size = none := I.hok.fresh (Nat.le_of_lt hlt)
    let zs : List (Addr × (Key × Int)) := out.map fun v => (ad v, q2 v)
    have zV : zs.map (fun z => V.ref z.1) = out.map fun v => V.ref (ad v) := by rw [List.map_map]; rfl
    have rv : Vals (zs.map fun z => V.ref z.1) out := by
      rw [zV]
      clear a1 a2 pm heF zV
      induction out with
      | nil => exact .nil
      | cons v out ih =>
        obtain ⟨j, b, e, _⟩ := outr v List.mem_cons_self
        exact .cons (by rw [e]; rfl) (ih fun v hv => outr v (List.mem_cons_of_mem _ hv))
    have hperm : (zs.map (·.2)).Perm ps := by
      have e1 : zs.map (·.2) = out.map q2 := by rw [List.map_map]; rfl
      have e2 : (as.map Value.ref).map q2 = ps := by
        rw [List.map_map]
        refine List.ext_getElem? fun j => ?_
        rw [List.getElem?_map]
        cases e : as[j]? with
        | none => rw [List.getElem?_eq_none_iff] at e; rw [List.getElem?_eq_none (by omega)]; rfl
        | some b => rw [q2_at j b e]; rfl
      rw [e1, ← e2]
      exact pm.map q2
    have hsort : (zs.map (·.2)).Pairwise le2 := by
      rw [List.map_map, List.pairwise_map]
      exact a1
    have hlen : (zs.map fun z => V.ref z.1).length ≤ sizeLine := by
      have e := hperm.length_eq
      rw [List.length_map] at e
      rw [List.length_map]
      omega
    have I2 : Inv X pins σ (L2.upd H h1.objs.size (.lst (zs.map fun z => V.ref z.1))) { s with heap := h', toks := tk } :=
      I1.take (h' := h') (t' := tk) (fun b ob _ e => e) (I.fpOk (Nat.le_of_lt hlt) hn0) ⟨hlen, out, eF, rv, heF⟩
    obtain ⟨H2, I3, g, qt⟩ := L2.DX.takeT (P := fun b vs => vs = [kV (q2 (.ref b)).1, .int (q2 (.ref b)).2]) I as _ I2 nd fun b hb => by
      obtain ⟨j, hj⟩ := List.mem_iff_getElem?.mp hb
      obtain ⟨key, t, rk, hgb⟩ := pr j b hj
      have hbl : s.heap.objs.size ≤ b := Nat.le_of_lt (hG.above b hb)
      refine ⟨hbl, ?_, _, rfl, fun H3 => ⟨(by rw [sizeLine_eq]; show 2 ≤ 16777216; omega), [key, Value.int (q2 (.ref b)).2 t], .cons rk (.cons ⟨t, rfl⟩ .nil), ⟨_, hk2 _ _ hgb, rfl, 0, rfl⟩⟩⟩
      rw [L2.upd_ne (Nat.ne_of_lt (Heap.lt_size hgb))]
      exact I.hok.fresh hbl
    have gr : ∀ b o, H b = some o → H2 b = some o := fun b o e => g b o (by rw [L2.upd_ne (ne_of_none e hn0)]; exact e)
    refine ⟨.ref h1.objs.size, H2, I3, rfl, q H2 h1.objs.size zs gr hperm hsort hn0 (g _ _ L2.upd_same) fun z' hz' => ?_⟩
    obtain ⟨v, hv, rfl⟩ := List.mem_map.mp hz'
    obtain ⟨j, b, rfl, hj⟩ := outr v hv
    obtain ⟨vs', e, hH⟩ := qt b (List.mem_of_getElem? hj)
    rw [e] at hH
    exact hH
end
end Wk
set_option Elab.async false
set_option linter.all false
set_option maxRecDepth 100000
set_option maxHeartbeats 1000000
/-! plain tuples; dict of a plain tuple of pairs -/
namespace Wk
open PySem PySem.Spec PyProof.Rows L2
section
variable {X : Cx} {pos : Pos}
def tPT0 : TE := fun σ H Q => ∀ p o, H p = none → o.dict = none → Q (.ref p) (L2.upd H p (.frz o (.tup [])))
/-- () -/
theorem pe_pt0 {x1} : PE X (.Tuple [] x1 pos) tPT0 := by
  refine ⟨fun pins s σ H Q I hq => ?_⟩
  refine wpAny_Tuple_spliced (thn (pa_nil.run pos pins s σ H (fun vs H' => vs = [] ∧ H' = H) I ⟨rfl, rfl⟩) fun us s1 ⟨xs, H1, I1, r, e1, e2⟩ => ?_)
  subst e1 e2
  cases r
  refine ⟨Nat.zero_le _, ?_⟩
  have hf : H1 s1.heap.objs.size = none := I1.hok.fresh (Nat.le_refl _)
  have hg : (s1.heap.push { cls := .type "tuple", data := .seq ([] : List Value).toArray }).get? s1.heap.objs.size = some { cls := .type "tuple", data := .seq ([] : List Value).toArray } := Heap.get?_push_size _ rfl
  refine ⟨.ref s1.heap.objs.size, L2.upd H1 s1.heap.objs.size (.frz { cls := .type "tuple", data := .seq ([] : List Value).toArray } (.tup [])), I1.laid (t' := s1.toks) (fun b u e => Heap.get?_push_of_some _ e) (Nat.le_refl _) ⟨hg, Nat.zero_le _, [], .nil, _, hg, rfl, _, rfl⟩, rfl, hq _ _ hf rfl⟩
/-- tuple(list) -/
def rPT (K : PySem.W.Frag) : List V → Hp → VK → Prop := fun xs H Q => ∃ p ys, xs = [V.ref p] ∧ SqL K H p ys ∧ ∀ l o, H l = none → o.dict = none → Q (.ref l) (L2.upd H l (.frz o (.tup ys)))
theorem call_ptuple : CallR X (.type "tuple") (rPT X.K) := by
  intro pins s σ H xs us Q I r h
  obtain ⟨p, ys, rfl, hq, q⟩ := h
  obtain ⟨u, rfl, rx⟩ := vals1 r
  cases rx
  obtain ⟨its, r', pl, hz⟩ := I.list hq
  have hlen := r'.length
  refine call_tuple_list pl.isList (fun h' kp => ?_) (by simp only [List.size_toArray] <;> omega)
  have I1 : Inv X pins σ H { s with heap := h' } := I.kept (t' := s.toks) kp
  have hg : (h'.push { cls := .type "tuple", data := .seq its.toArray }).get? h'.objs.size = some { cls := .type "tuple", data := .seq its.toArray } := Heap.get?_push_size _ rfl
  have I2 : Inv X pins σ (L2.upd H h'.objs.size (.frz { cls := .type "tuple", data := .seq its.toArray } (.tup ys))) { s with heap := h'.push { cls := .type "tuple", data := .seq its.toArray } } :=
    I1.laid (t' := s.toks) (fun b o e => Heap.get?_push_of_some _ e) (Nat.le_refl _) ⟨hg, hz, its, r', IsTup.new _ _⟩
  exact ⟨.ref h'.objs.size, _, I2, rfl, q _ _ (I1.hok.fresh (Nat.le_refl _)) rfl⟩
/-- dict(plain tuple of pairs) -/
def rDictPT (K : PySem.W.Frag) : List V → Hp → VK → Prop := fun xs H Q => ∃ (a : Addr) (o : Obj) (ps : List Addr) (kvs : List (Key × V)), xs = [.ref a] ∧ H a = some (.frz o (.tup (ps.map V.ref))) ∧ o.dict = none ∧ Paired (fun p kv => SqT K H p [kV kv.1, kv.2]) ps kvs ∧
    ∀ p, H p = none → Q (.ref p) (L2.upd H p (.dK (mergeK [] kvs)))
theorem call_dictPT (hcalm : X.calm = true) : CallR X (.type "dict") (rDictPT X.K) := by
  intro pins s σ H xs us Q I r q
  obtain ⟨a, o, ps, kvs, ex, hq, hod, hp, q⟩ := q
  subst ex
  obtain ⟨u, eu, rx⟩ := vals1 r
  subst eu
  cases rx
  obtain ⟨ho, hz, its, rv, ⟨o', ho', hc, n, hd⟩⟩ := (show ObjOk X.prog X.w H s.heap a (.frz o (.tup (ps.map V.ref))) from I.hok a _ hq)
  have eo : o = o' := Option.some.inj (ho.symm.trans ho')
  subst eo
  have ei := refs_at rv
  subst ei
  rw [List.length_map] at hz
  obtain ⟨prs, rel, hl, hpr⟩ := pairs_of I hp
  -- each pair's key and value
  have hk : ∀ j : Nat, ∃ u : Value, j < prs.length → ∃ b : Addr, ps[j]? = some b ∧ IsTup s.heap b #[u, (prs.getD j (.inl 0, .none)).2] ∧ keyIs (prs.getD j (.inl 0, .none)).1 u = true := fun j => by
    by_cases hj : j < prs.length
    · obtain ⟨b, u, e1, e2, e3⟩ := hpr j prs[j] (List.getElem?_eq_getElem hj)
      have eg : prs.getD j (.inl 0, .none) = prs[j] := by rw [List.getD_eq_getElem?_getD, List.getElem?_eq_getElem hj]; rfl
      rw [eg]
      exact ⟨u, fun _ => ⟨b, e1, e2, e3⟩⟩
    · exact ⟨.none, fun z => absurd z hj⟩
  obtain ⟨fu, hf⟩ := Classical.axiomOfChoice hk
  let vps : List (Value × Value) := (List.range prs.length).map fun j => (fu j, (prs.getD j (.inl 0, .none)).2)
  have vl : vps.length = prs.length := by simp [vps]
  have vget : ∀ j p, vps[j]? = some p → j < prs.length ∧ p = (fu j, (prs.getD j (.inl 0, .none)).2) := fun j p e => by
    have hj : j < prs.length := by rw [← vl]; exact (List.getElem?_eq_some_iff.mp e).1
    refine ⟨hj, ?_⟩
    have : vps[j]? = some (fu j, (prs.getD j (.inl 0, .none)).2) := by
      show ((List.range prs.length).map _)[j]? = _
      rw [List.getElem?_map, List.getElem?_range hj]
      rfl
    rw [this] at e
    exact (Option.some.inj e).symm
  refine PySem.call_dict_pairs (knd := mixKind X.prog X.w) (kvs := prs) (PairArg.tuple a (ps.map Value.ref).toArray (fun j => ps.getD j 0) vps) (I.ok.hd hcalm) ⟨⟨o, n, ho, hc, hod, hd⟩, by simp [vl, hl], fun j k v e => ?_⟩ ⟨vl.symm, fun j key v e => ?_⟩ (by rw [vl, hl]; exact hz) fun h' tk hd' k => ?_
  · obtain ⟨hj, e⟩ := vget j _ e
    cases e
    obtain ⟨b, e1, e2, e3⟩ := hf j hj
    have eb : ps.getD j 0 = b := by rw [List.getD_eq_getElem?_getD, e1]; rfl
    refine ⟨by simp [eb, e1], .inl ?_⟩
    show IsTup s.heap (ps.getD j 0) #[fu j, (prs.getD j (.inl 0, .none)).2]
    rw [eb]
    exact e2
  · obtain ⟨hj, e⟩ := vget j _ e
    cases e
    obtain ⟨b, e1, e2, e3⟩ := hf j hj
    refine ⟨(prs.getD j (.inl 0, .none)).1, ?_, e3⟩
    rw [List.getD_eq_getElem?_getD, List.getElem?_eq_getElem hj]
    rfl
  · have hm : (s.heap.objs.size == sysModules) = false := beq_eq_false_iff_ne.mpr (Nat.ne_of_gt I.big)
    have hlen : (mergeK [] kvs).length ≤ sizeLine := by
      refine Nat.le_trans (length_mergeK kvs []) ?_
      rw [List.length_nil, Nat.zero_add, rel.length, hl]
      exact hz
    exact ⟨.ref s.heap.objs.size, L2.upd H s.heap.objs.size (.dK (mergeK [] kvs)), I.laid (t' := tk) (fun b o e => k b o (by simp) e) (Nat.le_refl _) (show ObjOk X.prog X.w _ _ _ (.dK (mergeK [] kvs)) from ⟨hlen, hm, merged [] prs, KV.merge rel .nil, hd'⟩), rfl, q _ (I.hok.fresh (Nat.le_refl _))⟩
end
/-! ### by data -/
def keyD : Key → D
  | .inl i => .int i | .inr z => .str z
def pairK (q : Key × Int) : D := .tup [keyD q.1, .int q.2]
def kvI (ps : List (Key × Int)) : List (Key × V) := ps.map fun q => (q.1, V.int q.2)
section
variable {K : PySem.W.Frag} {Γ : Gm} {te : TE} {ds : List D}
theorem ev_pt0 : Ev K tPT0 Γ (.ptup []) := fun σ H sa Q q p o hp ho => q _ _ (Same.new hp) ⟨p, o, [], rfl, L2.upd_same, ho, rfl⟩
theorem rc_ptup : RC K (rPT K) [.lst ds] (.ptup ds) := fun vs H a Q q => by
  obtain ⟨x, r, e1, ⟨p, xs, e2, hs, al⟩, e3⟩ := a
  rw [show r = [] from e3] at e1
  exact ⟨p, xs, by rw [e1, e2], hs, fun l o hl ho => q _ _ (Same.new hl) ⟨l, o, xs, rfl, L2.upd_same, ho, AtL.mono (Same.new hl) al⟩⟩
theorem at_keyD {H : Hp} {k : Key} {v : V} (h : At K H (keyD k) v) : v = kV k := by
  cases k <;> exact h
theorem at_pairK {H : Hp} {q : Key × Int} {v : V} (h : At K H (pairK q) v) : ∃ t, v = .ref t ∧ Rd H t (.tup [kV q.1, .int q.2]) := by
  obtain ⟨t, xs, e, hs, x, r, e1, a1, y, r2, e2, a2, e3⟩ := h
  refine ⟨t, e, ?_⟩
  rw [e1, e2, show r2 = [] from e3, at_keyD a1, show y = .int q.2 from a2] at hs
  exact hs
theorem pairK_at {H : Hp} {q : Key × Int} {t : Addr} (hs : Rd H t (.tup [kV q.1, .int q.2])) : At K H (pairK q) (.ref t) := by
  refine ⟨t, _, rfl, hs, kV q.1, _, rfl, ?_, .int q.2, [], rfl, rfl, rfl⟩
  cases q.1 <;> rfl
theorem putK_new {kvs : List (Key × V)} {k : Key} {v : V} (h : k ∉ kvs.map (·.1)) : putK kvs k v = kvs ++ [(k, v)] := by
  unfold putK
  rw [if_neg]
  intro z
  obtain ⟨x, hx, e⟩ := List.any_eq_true.mp z
  exact h (List.mem_map.mpr ⟨x, hx, of_decide_eq_true e⟩)
theorem merge_nodup : ∀ {more kvs : List (Key × V)}, ((kvs ++ more).map (·.1)).Nodup → mergeK kvs more = kvs ++ more
  | [], kvs, _ => by simp [mergeK]
  | q :: more, kvs, h => by
    have h2 : (((kvs ++ [q]) ++ more).map (·.1)).Nodup := by rw [List.append_assoc]; exact h
    have hn : q.1 ∉ kvs.map (·.1) := by
      rw [List.map_append, List.map_cons, List.nodup_append] at h
      exact fun z => h.2.2 q.1 z q.1 List.mem_cons_self rfl
    have := merge_nodup h2
    show mergeK (putK kvs q.1 q.2) more = _
    rw [putK_new hn, this, List.append_assoc]
    rfl
theorem rc_dictPT {ps : List (Key × Int)} (hn : (ps.map (·.1)).Nodup) : RC K (rDictPT K) [.ptup (ps.map pairK)] (.dct (kvI ps)) := fun vs H a Q q => by
  obtain ⟨x, r, e1, ⟨p, o, xs, e2, hs, ho, al⟩, e3⟩ := a
  rw [show r = [] from e3] at e1
  have key : ∀ (ps : List (Key × Int)) (xs : List V), AtL K H (ps.map pairK) xs → ∃ as : List Addr, xs = as.map V.ref ∧ Paired (fun p kv => SqT K H p [kV kv.1, kv.2]) as (kvI ps) := by
    intro ps
    induction ps with
    | nil => intro xs al; exact ⟨[], al, .nil⟩
    | cons q ps ih =>
      intro xs al
      obtain ⟨v, r, e, a1, a2⟩ := al
      obtain ⟨t, rfl, ht⟩ := at_pairK a1
      obtain ⟨as, rfl, hp⟩ := ih r a2
      exact ⟨t :: as, e, .cons (.inl ht) hp⟩
  obtain ⟨as, rfl, hp⟩ := key ps xs al
  refine ⟨p, o, as, kvI ps, by rw [e1, e2], hs, ho, hp, fun l hl => ?_⟩
  have : mergeK [] (kvI ps) = kvI ps := by
    rw [merge_nodup (by rw [List.nil_append]; unfold kvI; rw [List.map_map]; exact hn)]
    rfl
  rw [this]
  exact q _ _ (Same.new hl) ⟨l, rfl, L2.upd_same⟩
/-- a sorted arrangement -/
def SrtOf (ps ps' : List (Key × Int)) : Prop := ps'.Perm ps ∧ ps'.Pairwise le2
theorem rcp_srtT {ty : Bool} {ps : List (Key × Int)} (hg : ∀ q ∈ ps, good ty q.1) : RCP K (rSrtT K) [.tup (ps.map pairK)] (fun d => ∃ ps', SrtOf ps ps' ∧ d = .lst (ps'.map pairK)) := fun vs H a Q q => by
  obtain ⟨x, r, e1, ⟨p, xs, e2, hs, al⟩, e3⟩ := a
  rw [show r = [] from e3] at e1
  have hq : ∀ v : V, ∃ q : Key × Int, v ∈ xs → (∃ t, v = .ref t ∧ Rd H t (.tup [kV q.1, .int q.2])) ∧ q ∈ ps := fun v => by
    by_cases hv : v ∈ xs
    · obtain ⟨i, hi⟩ := List.mem_iff_getElem?.mp hv
      obtain ⟨d, hd, ad⟩ := AtL.back al hi
      rw [List.getElem?_map] at hd
      cases e : ps[i]? with
      | none => rw [e] at hd; cases hd
      | some q =>
        rw [e] at hd
        have : pairK q = d := Option.some.inj hd
        subst this
        exact ⟨q, fun _ => ⟨at_pairK ad, List.mem_of_getElem? e⟩⟩
    · exact ⟨(.inl 0, 0), fun z => absurd z hv⟩
  obtain ⟨f, hf⟩ := Classical.axiomOfChoice hq
  have hmap : xs.map f = ps := by
    have go : ∀ (ps : List (Key × Int)) (xs : List V), AtL K H (ps.map pairK) xs → (∀ v ∈ xs, ∃ t, v = .ref t ∧ Rd H t (.tup [kV (f v).1, .int (f v).2])) → xs.map f = ps := by
      intro ps
      induction ps with
      | nil => intro xs al _; rw [show xs = [] from al]; rfl
      | cons q ps ih =>
        intro xs al hx
        obtain ⟨v, r, e, a1, a2⟩ := al
        subst e
        rw [List.map_cons, ih r a2 fun v hv => hx v (List.mem_cons_of_mem _ hv)]
        obtain ⟨t, e, ht⟩ := at_pairK a1
        obtain ⟨t', e', ht'⟩ := hx v List.mem_cons_self
        rw [e] at e'
        cases e'
        have e2 := rd_uniq ht' ht
        have h1 : kV (f v).1 = kV q.1 := (List.cons.inj e2).1
        have h2 : (V.int (f v).2) = .int q.2 := (List.cons.inj (List.cons.inj e2).2).1
        have h3 : (f v).1 = q.1 := by
          cases ea : (f v).1 <;> cases eb : q.1 <;> rw [ea, eb] at h1 <;> cases h1 <;> rfl
        rw [show f v = q from Prod.ext h3 (V.int.inj h2)]
    exact go ps xs al fun v hv => (hf v hv).1
  refine ⟨ty, p, xs, f, by rw [e1, e2], .inl hs, fun v hv => ?_, fun ys l pm srt hl => ?_⟩
  · obtain ⟨⟨t, e, ht⟩, hm⟩ := hf v hv
    exact ⟨t, e, .inl ht, hg _ hm⟩
  · refine q _ _ (.lst ((ys.map f).map pairK)) ⟨ys.map f, ⟨by rw [← hmap]; exact pm.map f, srt⟩, rfl⟩ (Same.new hl) (At.lst_new hl ?_)
    have go : ∀ ys : List V, (∀ v ∈ ys, v ∈ xs) → AtL K H ((ys.map f).map pairK) ys := by
      intro ys
      induction ys with
      | nil => intro _; rfl
      | cons v ys ih =>
        intro h
        obtain ⟨⟨t, e, ht⟩, _⟩ := hf v (h v List.mem_cons_self)
        exact ⟨v, ys, rfl, by rw [e] at ht ⊢; exact pairK_at ht, ih fun v hv => h v (List.mem_cons_of_mem _ hv)⟩
    exact go ys fun v hv => pm.mem_iff.mp hv
end
end Wk
set_option Elab.async false
set_option linter.all false
set_option maxRecDepth 100000
set_option maxHeartbeats 1000000
/-! comprehensions by data; a def's promise by data -/
namespace Wk
open PySem PySem.Spec PyProof.Rows L2
mutual
def nl : D → Bool
  | .lst _ => false
  | .tup ds => nlL ds
  | .ptup ds => nlL ds
  | _ => true
def nlL : List D → Bool
  | [] => true
  | d :: ds => nl d && nlL ds
end
theorem nlL_of {ds : List D} (h : ∀ d ∈ ds, nl d = true) : nlL ds = true := by
  induction ds with
  | nil => rfl
  | cons d ds ih => simp only [nlL, Bool.and_eq_true]; exact ⟨h d List.mem_cons_self, ih fun x hx => h x (List.mem_cons_of_mem _ hx)⟩
def KeepT (H H' : Hp) : Prop := ∀ b u, H b = some u → (∀ xs, u ≠ HO.lst xs) → H' b = some u
theorem KeepT.rd {H H' : Hp} (k : KeepT H H') {a : Addr} {xs : List V} (h : Rd H a (.tup xs)) : Rd H' a (.tup xs) := by
  rcases h with h | ⟨o, h⟩
  · exact .inl (k _ _ h fun _ z => nomatch z)
  · exact .inr ⟨o, k _ _ h fun _ z => nomatch z⟩
theorem Same.keepT {H H' : Hp} (e : Same H H') : KeepT H H' := fun b u q _ => e b u q
theorem KeepT.trans {H H1 H2 : Hp} (a : KeepT H H1) (b : KeepT H1 H2) : KeepT H H2 := fun c u q n => b c u (a c u q n) n
theorem KeepT.lst {H : Hp} {a : Addr} {xs ys : List V} (h : H a = some (.lst xs)) : KeepT H (L2.upd H a (.lst ys)) := fun b u q n => by
  rw [L2.upd_ne]
  · exact q
  · rintro rfl
    rw [h] at q
    exact n xs (Option.some.inj q).symm
mutual
theorem At.keep {K : PySem.W.Frag} {H H' : Hp} (k : KeepT H H') : ∀ {d : D} {v : V}, nl d = true → At K H d v → At K H' d v
  | .non, _, _, h => h
  | .bl _, _, _, h => h
  | .int _, _, _, h => h
  | .str _, _, _, h => h
  | .ref _, _, _, h => h
  | .tup ds, v, n, h => by
    obtain ⟨a, xs, e1, h1, h2⟩ := h
    exact ⟨a, xs, e1, k.rd h1, AtL.keep k n h2⟩
  | .ptup ds, v, n, h => by
    obtain ⟨a, o, xs, e1, h1, h0, h2⟩ := h
    exact ⟨a, o, xs, e1, k _ _ h1 fun _ z => (nomatch z), h0, AtL.keep k n h2⟩
  | .lst ds, v, n, h => by cases n
  | .dct kvs, v, n, h => by
    obtain ⟨a, e1, h1⟩ := h
    exact ⟨a, e1, k _ _ h1 fun _ z => nomatch z⟩
theorem AtL.keep {K : PySem.W.Frag} {H H' : Hp} (k : KeepT H H') : ∀ {ds : List D} {vs : List V}, nlL ds = true → AtL K H ds vs → AtL K H' ds vs
  | [], _, _, h => h
  | d :: ds, vs, n, h => by
    simp only [nlL, Bool.and_eq_true] at n
    obtain ⟨x, r, e1, h1, h2⟩ := h
    exact ⟨x, r, e1, At.keep k n.1 h1, AtL.keep k n.2 h2⟩
end
theorem Same.mut {H H' : Hp} {p : Addr} {o : HO} (e : Same H H') (h : H p = none) : Same H (L2.upd H' p o) := fun a u ha => by
  rw [L2.upd_ne (ne_of_none ha h)]
  exact e a u ha
theorem wipe_get {σ : L2.St} : ∀ {vs : List Nat} {i : Nat}, (wipe σ vs)[i]? = if i ∈ vs then (σ[i]?).map (fun _ => none) else σ[i]?
  | [], i => by simp [L2.wipe]
  | v :: vs, i => by
    unfold L2.wipe
    by_cases e : v = i
    · subst e
      rw [if_pos List.mem_cons_self]
      by_cases hl : v < σ.length
      · rw [List.getElem?_set_self (by rw [wipe_length]; exact hl), List.getElem?_eq_getElem hl]; rfl
      · rw [List.getElem?_eq_none (by rw [List.length_set, wipe_length]; omega), List.getElem?_eq_none (by omega)]; rfl
    · rw [List.getElem?_set_ne e, wipe_get]
      by_cases m : i ∈ vs
      · rw [if_pos m, if_pos (List.mem_cons_of_mem _ m)]
      · rw [if_neg m, if_neg (fun z => (List.mem_cons.mp z).elim (fun y => e y.symm) m)]
theorem wipe_set {σ : L2.St} {vs : List Nat} {i : Nat} {x : Option V} (h : i ∈ vs) : wipe (σ.set i x) vs = wipe σ vs := by
  refine List.ext_getElem? fun j => ?_
  rw [wipe_get, wipe_get]
  by_cases m : j ∈ vs
  · rw [if_pos m, if_pos m]
    by_cases e : i = j
    · subst e
      by_cases hl : i < σ.length
      · rw [List.getElem?_set_self hl, List.getElem?_eq_getElem hl]; rfl
      · rw [List.getElem?_eq_none (by rw [List.length_set]; omega), List.getElem?_eq_none (by omega)]
    · rw [List.getElem?_set_ne e]
  · rw [if_neg m, if_neg m, List.getElem?_set_ne (by rintro rfl; exact m h)]
theorem wipe_wipe {σ : L2.St} {vs : List Nat} : wipe (wipe σ vs) vs = wipe σ vs := by
  refine List.ext_getElem? fun j => ?_
  rw [wipe_get, wipe_get]
  by_cases m : j ∈ vs
  · rw [if_pos m, if_pos m]
    cases σ[j]? <;> rfl
  · rw [if_neg m, if_neg m]
def wipeG (Γ : Gm) : List Nat → Gm
  | [] => Γ
  | v :: vs => (wipeG Γ vs).set v none
theorem wipeG_len (Γ : Gm) : ∀ vs, (wipeG Γ vs).length = Γ.length
  | [] => rfl
  | v :: vs => by unfold wipeG; rw [List.length_set, wipeG_len Γ vs]
theorem SA.wipeG {K : PySem.W.Frag} {H : Hp} {σ : L2.St} {Γ : Gm} (h : SA K H σ Γ) : ∀ vs : List Nat, SA K H (L2.wipe σ vs) (Wk.wipeG Γ vs)
  | [] => h
  | v :: vs => by
    have ih := SA.wipeG h vs
    refine ⟨by unfold L2.wipe Wk.wipeG; rw [List.length_set, List.length_set]; exact ih.len, fun i d q => ?_⟩
    unfold Wk.wipeG at q
    by_cases e : v = i
    · subst e
      by_cases hl : v < (Wk.wipeG Γ vs).length
      · rw [List.getElem?_set_self hl] at q; cases q
      · rw [List.getElem?_eq_none (by rw [List.length_set]; omega)] at q; cases q
    · rw [List.getElem?_set_ne e] at q
      unfold L2.wipe
      rw [List.getElem?_set_ne e]
      exact ih.at_ i d q
/-- a target within a comprehension: it stores at the places vs alone -/
def GW (K : PySem.W.Frag) (vs : List Nat) (g : TG) (d : D) (Γ : Gm) (nx : Gm → Prop) : Prop := ∀ v σ H Q, SA K H σ Γ → At K H d v → (∀ Γ' σ' H', nx Γ' → Same H H' → SA K H' σ' Γ' → wipe σ' vs = wipe σ vs → Q σ' H') → g v σ H Q
def GWs (K : PySem.W.Frag) (vs : List Nat) (g : TGs) (ds : List D) (Γ : Gm) (nx : Gm → Prop) : Prop := ∀ us σ H Q, SA K H σ Γ → AtL K H ds us → (∀ Γ' σ' H', nx Γ' → Same H H' → SA K H' σ' Γ' → wipe σ' vs = wipe σ vs → Q σ' H') → g us σ H Q
section
variable {K : PySem.W.Frag} {Γ : Gm} {te tl tk tv : TE} {tt : TT} {d : D} {ds : List D} {vs : List Nat} {nx : Gm → Prop} {g : TG} {gs : TGs}
theorem gw_name {i : Nat} (hi : i ∈ vs) (h : nx (Γ.set i (some d))) : GW K vs (gName i) d Γ nx := fun v σ H Q sa a q => q _ _ H h (Same.refl H) (sa.set a) (wipe_set hi)
theorem gws_nil (h : nx Γ) : GWs K vs gNil [] Γ nx := fun us σ H Q sa a q => ⟨a, q Γ σ H h (Same.refl H) sa rfl⟩
theorem gws_cons (h : GW K vs g d Γ (fun Γ' => GWs K vs gs ds Γ' nx)) : GWs K vs (gCons g gs) (d :: ds) Γ nx := fun us σ H Q sa a q => by
  obtain ⟨v, r, e, a1, a2⟩ := a
  refine ⟨v, r, e, h v σ H _ sa a1 fun Γ' σ' H' n e' sa' w' => ?_⟩
  exact n r σ' H' Q sa' (AtL.mono e' a2) fun Γ2 σ2 H2 n2 e2 sa2 w2 => q Γ2 σ2 H2 n2 (e'.trans e2) sa2 (w2.trans w')
theorem gw_tup {n : Nat} (hl : ds.length = n) (h : GWs K vs gs ds Γ nx) : GW K vs (gTup K n gs) (.tup ds) Γ nx := fun v σ H Q sa a q => by
  obtain ⟨p, xs, e, hs, al⟩ := a
  exact ⟨p, xs, e, .inl hs, by rw [AtL.len al, hl], h xs σ H Q sa al q⟩
theorem eb_yes : EvB K tYes Γ true := fun σ H sa Q q => q H (Same.refl H)
/-- one turn of a comprehension: what it adds -/
def LcTurn (K : PySem.W.Frag) (vs : List Nat) (g : TG) (tt : TT) (te : TE) (Γ : Gm) (d : D) (o : Option D) : Prop :=
  GW K vs g d (wipeG Γ vs) fun Γ' => ∃ b, EvB K tt Γ' b ∧ (b = true → ∃ y, o = some y ∧ nl y = true ∧ Ev K te Γ' y) ∧ (b = false → o = none)
theorem lc_step {D0 : Addr} {H1 H : Hp} {σ : L2.St} {acc : List V} {as : List D} {x : V} {o : Option D} {Nx : Hp → Prop} (sa : SA K H1 σ Γ) (hD : H1 D0 = none) (e : Same H1 H) (hacc : H D0 = some (.lst acc)) (hal : AtL K H as acc) (hn : nlL as = true) (hz : acc.length ≤ 100000)
    (ax : At K H d x) (t : LcTurn K vs g tt te Γ d o) (hN : ∀ H' acc', Same H1 H' → H' D0 = some (.lst acc') → AtL K H' (as ++ o.toList) acc' → nlL (as ++ o.toList) = true → Nx H') :
    g x (wipe σ vs) H fun σ2 H2 => wipe σ2 vs = wipe σ vs ∧ tt σ2 H2 fun b H3 => if b = true then te σ2 H3 fun y H4 => ∃ acc, H4 D0 = some (.lst acc) ∧ acc.length < sizeLine ∧ Nx (L2.upd H4 D0 (.lst (acc ++ [y]))) else Nx H3 := by
  refine t x (wipe σ vs) H _ ((sa.mono e).wipeG vs) ax fun Γ' σ2 H2 ⟨b, hb, h1, h0⟩ e2 sa2 w2 => ⟨w2.trans wipe_wipe, hb σ2 H2 sa2 _ fun H3 e3 => ?_⟩
  cases b with
  | false =>
    refine iteF ?_
    have eo := h0 rfl
    have e' := e2.trans e3
    exact hN H3 acc (e.trans e') (e' _ _ hacc) (by rw [eo]; simpa using AtL.mono e' hal) (by rw [eo]; simpa using hn)
  | true =>
    refine iteT ?_
    obtain ⟨y, eo, ny, hy⟩ := h1 rfl
    refine hy σ2 H3 (sa2.mono e3) _ fun v H4 e4 a4 => ?_
    have e' := (e2.trans e3).trans e4
    have k := KeepT.lst (ys := acc ++ [v]) (e' _ _ hacc)
    refine ⟨acc, e' _ _ hacc, szl hz, hN _ (acc ++ [v]) (Same.mut (e.trans e') hD) L2.upd_same ?_ ?_⟩
    · rw [eo]
      exact AtL.append (AtL.keep k hn (AtL.mono e' hal)) (AtL.one (At.keep k ny a4))
    · rw [eo]
      show nlL (as ++ [y]) = true
      have : ∀ as : List D, nlL as = true → nlL (as ++ [y]) = true := by
        intro as
        induction as with
        | nil => intro _; simp [nlL, ny]
        | cons a as ih => intro h; simp only [nlL, Bool.and_eq_true, List.cons_append] at h ⊢; exact ⟨h.1, ih h.2⟩
      exact this as hn
theorem filterMap_take {out : D → Option D} {i : Nat} (h : ds[i]? = some d) : (ds.take (i + 1)).filterMap out = (ds.take i).filterMap out ++ (out d).toList := by
  rw [List.take_add_one, h, List.filterMap_append]
  cases e : out d <;> simp [e, Option.toList]
theorem ev_lcT (out : D → Option D) (hl : Ev K tl Γ (.tup ds)) (hz : ds.length ≤ 100000) (hs : ∀ d, d ∈ ds → LcTurn K vs g tt te Γ d (out d)) : Ev K (tLc (iTup K tl) g tt te vs) Γ (.lst (ds.filterMap out)) := fun σ H sa Q q =>
  hl σ H sa _ fun x H1 e1 a1 => by
    obtain ⟨p, xs, ex, hq, al⟩ := a1
    have hlen := AtL.len al
    refine ⟨p, ex, ⟨xs, .inl hq⟩, fun D0 hD => lc_tup (K := K) (a := p) (xs := xs) (fun i H => Same H1 H ∧ ∃ acc, H D0 = some (.lst acc) ∧ AtL K H ((ds.take i).filterMap out) acc ∧ nlL ((ds.take i).filterMap out) = true)
      ⟨Same.new hD, [], L2.upd_same, by simp [AtL], by simp [nlL]⟩ (fun i H _ h => .inl (Same.rd h.1 hq)) ?_ ?_⟩
    · rintro i x H hx ⟨e, acc, h1, h2, h3⟩
      obtain ⟨d, hd, ad⟩ := AtL.back al hx
      have hz' : acc.length ≤ 100000 := by
        rw [AtL.len h2]
        refine Nat.le_trans (List.length_filterMap_le _ _) ?_
        rw [List.length_take]; omega
      refine lc_step (sa.mono e1) hD e h1 h2 h3 hz' (At.mono e ad) (hs d (List.mem_of_getElem? hd)) fun H' acc' e' f1 f2 f3 => ⟨e', acc', f1, ?_, ?_⟩
      · rw [filterMap_take hd]; exact f2
      · rw [filterMap_take hd]; exact f3
    · rintro H ⟨e, acc, h1, h2, h3⟩
      rw [hlen, List.take_length] at h2
      exact q _ _ (e1.trans e) ⟨D0, acc, rfl, SqL.of h1, h2⟩
theorem ev_lcL (out : D → Option D) (hl : Ev K tl Γ (.lst ds)) (hz : ds.length ≤ 100000) (hs : ∀ d, d ∈ ds → LcTurn K vs g tt te Γ d (out d)) : Ev K (tLc (iList K tl) g tt te vs) Γ (.lst (ds.filterMap out)) := fun σ H sa Q q =>
  hl σ H sa _ fun x H1 e1 a1 => by
    obtain ⟨p, xs, ex, hq, al⟩ := a1
    have hlen := AtL.len al
    refine ⟨p, ex, ⟨xs, hq⟩, fun D0 hD => lc_list (K := K) (a := p) (xs := xs) (fun i H => Same H1 H ∧ ∃ acc, H D0 = some (.lst acc) ∧ AtL K H ((ds.take i).filterMap out) acc ∧ nlL ((ds.take i).filterMap out) = true)
      ⟨Same.new hD, [], L2.upd_same, by simp [AtL], by simp [nlL]⟩ (fun i H _ h => h.1.seq hq) ?_ ?_⟩
    · rintro i x H hx ⟨e, acc, h1, h2, h3⟩
      obtain ⟨d, hd, ad⟩ := AtL.back al hx
      have hz' : acc.length ≤ 100000 := by
        rw [AtL.len h2]
        refine Nat.le_trans (List.length_filterMap_le _ _) ?_
        rw [List.length_take]; omega
      refine lc_step (sa.mono e1) hD e h1 h2 h3 hz' (At.mono e ad) (hs d (List.mem_of_getElem? hd)) fun H' acc' e' f1 f2 f3 => ⟨e', acc', f1, ?_, ?_⟩
      · rw [filterMap_take hd]; exact f2
      · rw [filterMap_take hd]; exact f3
    · rintro H ⟨e, acc, h1, h2, h3⟩
      rw [hlen, List.take_length] at h2
      exact q _ _ (e1.trans e) ⟨D0, acc, rfl, SqL.of h1, h2⟩
/-- over range(n) -/
theorem ev_lcR {ta : TA} {n : Nat} (out : Nat → Option D) (hl : EvA K ta Γ [.int (n : Int)]) (hz : n ≤ 100000) (hs : ∀ i, i < n → LcTurn K vs g tt te Γ (.int (i : Int)) (out i)) : Ev K (tLc (iRng1 ta) g tt te vs) Γ (.lst ((List.range n).filterMap out)) := fun σ H sa Q q =>
  hl σ H sa _ fun us H1 e1 a1 => by
    obtain ⟨x, r, ex, ax, er⟩ := a1
    rw [show r = [] from er, show x = .int (n : Int) from ax] at ex
    refine ⟨(n : Int), ex, by omega, by omega, fun D0 hD => ?_⟩
    rw [Int.toNat_natCast]
    have tk : ∀ i, i < n → (List.range n)[i]? = some i := fun i hi => List.getElem?_range hi
    have ft : ∀ i, i < n → ((List.range n).take (i + 1)).filterMap out = ((List.range n).take i).filterMap out ++ (out i).toList := fun i hi => by
      rw [List.take_add_one, tk i hi, List.filterMap_append]
      cases e : out i <;> simp [e, Option.toList]
    refine lc_range (lo := 0) (n := n) (fun i H => Same H1 H ∧ ∃ acc, H D0 = some (.lst acc) ∧ AtL K H (((List.range n).take i).filterMap out) acc ∧ nlL (((List.range n).take i).filterMap out) = true)
      ⟨Same.new hD, [], L2.upd_same, by simp [AtL], by simp [nlL]⟩ ?_ ?_
    · rintro i H hi ⟨e, acc, h1, h2, h3⟩
      rw [Int.zero_add]
      have hz' : acc.length ≤ 100000 := by
        rw [AtL.len h2]
        refine Nat.le_trans (List.length_filterMap_le _ _) ?_
        rw [List.length_take]; simp; omega
      refine lc_step (d := .int (i : Int)) (sa.mono e1) hD e h1 h2 h3 hz' rfl (hs i hi) fun H' acc' e' f1 f2 f3 => ⟨e', acc', f1, ?_, ?_⟩
      · rw [ft i hi]; exact f2
      · rw [ft i hi]; exact f3
    · rintro H ⟨e, acc, h1, h2, h3⟩
      rw [List.take_of_length_le (by simp)] at h2
      exact q _ _ (e1.trans e) ⟨D0, acc, rfl, SqL.of h1, h2⟩
/-- sorted(d.items()) -/
theorem evp_srtI {ty : Bool} {ps : List (Key × Int)} (hd : Ev K te Γ (.dct (kvI ps))) (hg : ∀ q ∈ ps, good ty q.1) : EvP K (tCB rSrtI (tCons (tBM0 K "dict" rItemsK te) tNil)) Γ (fun d => ∃ ps', SrtOf ps ps' ∧ d = .lst (ps'.map pairK)) := fun σ H sa Q q =>
  hd σ H sa _ fun x H1 e1 a1 => by
    obtain ⟨a, ex, ha⟩ := a1
    subst ex
    refine ⟨.inr (.inr (.inl ⟨rfl, .inl ⟨_, ha⟩⟩)), a, _, rfl, rfl, ha, fun p hp => ?_⟩
    have np : a ≠ p := ne_of_none ha hp
    refine ⟨ty, p, a, ps, rfl, L2.upd_same, (by rw [L2.upd_ne np]; exact ha), hg, fun H' l zs e2 pm srt hl hL hz => ?_⟩
    refine q _ H' (.lst ((zs.map (·.2)).map pairK)) ⟨zs.map (·.2), ⟨pm, srt⟩, rfl⟩ ((e1.trans (Same.new hp)).trans e2) ⟨l, _, rfl, SqL.of hL, ?_⟩
    clear hL pm srt
    induction zs with
    | nil => rfl
    | cons z zs ih => exact ⟨_, _, rfl, pairK_at (.inl (hz z List.mem_cons_self)), ih fun y hy => hz y (List.mem_cons_of_mem _ hy)⟩
end
/-! ### a def -/
section
variable {P : Program} {w : World} {K : PySem.W.Frag} {mg : Str → Option Value} {base : Heap}
theorem fn_data {x qual : Str} {st : Stmt} {f : Addr} {fd : FuncData} {N ps : List Str} {k : Nat} {R : List D → (D → Prop) → Prop} (F : Fun K x qual st f fd) (S : FnScope N ps (defScope st)) (hl : ∀ ds Pp, R ds Pp → ds.length = ps.length)
    (hb : ∀ (cdv : Value) (A : Around) (outer : List Env) (s : Shared) (H : Hp) (E : XK), Room k (A.deeper (envOfC qual (defScope st) s.heap.objs.size f cdv)) →
      ∃ t, PSs (cxOf CX0 P w K mg base N qual (defScope st) f cdv A outer s H E).nox (defBody st) t ∧ ∀ ds Pp, R ds Pp → QS K t (ds.map some ++ List.replicate (N.length - ds.length) none) (fun _ => Pp .non) Pp) :
    FnOk P w K mg base CX0 (k + 1) f fd ps (spD K R) := by
  refine F.ok S (fun vs H Q E h => ?_) (fun cdv A outer s H vs Q E hr h => ?_)
  · obtain ⟨ds, Pp, r, a, _⟩ := h
    rw [AtL.len a, hl ds Pp r]
  · obtain ⟨ds, Pp, r, a, q⟩ := h
    obtain ⟨t, ht, hq⟩ := hb cdv A outer s H E hr
    refine ⟨t, ht, hq ds Pp r _ H _ (sa_start a) (fun Γ' σ' H' p e _ => ?_) fun d v H' p e a' => q v H' d p e a'⟩
    exact q .non H' .non p e rfl
end
end Wk
set_option Elab.async false
set_option linter.all false
set_option maxRecDepth 100000
set_option maxHeartbeats 1000000
/-! d = {k: o[i][k] for k in o[i]}; d[key] = value -/
namespace Wk
open PySem PySem.Spec PyProof.Rows L2
def putP (ps : List (Key × Int)) (k : Key) (n : Int) : List (Key × Int) :=
  if ps.any (fun q => decide (q.1 = k)) then ps.map (fun q => if q.1 = k then (q.1, n) else q) else ps ++ [(k, n)]
theorem kvI_put {ps : List (Key × Int)} {k : Key} {n : Int} : putK (kvI ps) k (.int n) = kvI (putP ps k n) := by
  unfold putK putP kvI
  have e : (ps.map fun q => (q.1, V.int q.2)).any (fun kv => decide (kv.1 = k)) = ps.any (fun q => decide (q.1 = k)) := by
    rw [List.any_map]; rfl
  rw [e]
  split
  · rw [List.map_map, List.map_map]
    refine List.map_congr_left fun q _ => ?_
    show (if q.1 = k then _ else _) = _
    simp only [Function.comp]
    split <;> rfl
  · rw [List.map_append]; rfl
theorem kvI_any {ps : List (Key × Int)} {i : Nat} {k : Key} {v : V} (h : (kvI ps)[i]? = some (k, v)) : ∃ n, ps[i]? = some (k, n) ∧ v = .int n := by
  unfold kvI at h
  rw [List.getElem?_map] at h
  cases e : ps[i]? with
  | none => rw [e] at h; cases h
  | some q =>
    rw [e] at h
    have := Option.some.inj h
    cases this
    exact ⟨q.2, rfl, rfl⟩
theorem valV_at : ∀ {ps : List (Key × Int)} {i : Nat} {k : Key} {n : Int}, (ps.map (·.1)).Nodup → ps[i]? = some (k, n) → valV (kvI ps) k = some (.int n)
  | [], _, _, _, _, h => by simp at h
  | q :: ps, 0, k, n, _, h => by
    have : q = (k, n) := by simpa using h
    subst this
    simp [valV, kvI]
  | q :: ps, i + 1, k, n, hn, h => by
    rw [List.map_cons, List.nodup_cons] at hn
    have h : ps[i]? = some (k, n) := by simpa using h
    have ne : q.1 ≠ k := fun e => hn.1 (by rw [e]; exact List.mem_map.mpr ⟨_, List.mem_of_getElem? h, rfl⟩)
    have ih := valV_at hn.2 h
    unfold valV kvI at ih ⊢
    rw [List.map_cons, List.find?_cons_of_neg (by simpa using ne)]
    exact ih
section
variable {K : PySem.W.Frag} {Γ : Gm} {te tl tk tv : TE} {d : D} {ds : List D} {nx : Gm → Prop} {rt : D → Prop} {u : TS}
def tCopy (K : PySem.W.Frag) (j i c : Nat) : TE := tLockE (tDc (iKeys (tOp (rIx K) (tVar j) (tC (.int (i : Int))))) (gName c) tYes (tVar c) (tDGet (tOp (rIx K) (tVar j) (tC (.int (i : Int)))) (tVar c)) [c])
theorem copy_at {j i c : Nat} {σ : L2.St} {H : Hp} {ps : List (Key × Int)} (sa : SA K H σ Γ) (hj : Γ[j]? = some (some (.tup ds))) (hi : ds[i]? = some (.dct (kvI ps))) (hn : (ps.map (·.1)).Nodup) (hz : ps.length ≤ 100000) (hc : c < Γ.length) (hjc : j ≠ c)
    (Q : VK) (q : ∀ p H', H p = none → Same H H' → H' p = some (.dK (kvI ps)) → Q (.ref p) H') : tCopy K j i c σ H Q := by
  obtain ⟨fv, ef, pf, xs, rfl, hf, al⟩ := sa.at_ j _ hj
  obtain ⟨dv, hdv, d0, rfl, hd⟩ := AtL.get al hi
  refine ⟨d0, _, hd, True.intro, fun od => ?_⟩
  have kT : KeepT H (L2.upd H d0 (.frz od (.dK (kvI ps)))) → True := fun _ => trivial
  -- the frame's tuple stands under the lock
  have npf : pf ≠ d0 := by
    rintro rfl
    rcases hf with h | ⟨o, h⟩ <;> rw [hd] at h <;> cases h
  have hf' : ∀ H2, (∀ b u, b ≠ d0 → H b = some u → H2 b = some u) → Rd H2 pf (.tup xs) := fun H2 k => by
    rcases hf with h | ⟨o, h⟩
    · exact .inl (k _ _ npf h)
    · exact .inr ⟨o, k _ _ npf h⟩
  have look : ∀ (σ2 : L2.St) (H2 : Hp) (Q2 : VK), σ2[j]? = some (some (.ref pf)) → (∀ b u, b ≠ d0 → H b = some u → H2 b = some u) → Q2 (.ref d0) H2 → tOp (rIx K) (tVar j) (tC (.int (i : Int))) σ2 H2 Q2 := fun σ2 H2 Q2 e k h =>
    ⟨_, e, .inr (.inl ⟨pf, xs, (i : Int), _, rfl, rfl, .inl (hf' H2 k), atI_of hdv, h⟩)⟩
  have k0 : ∀ b u, b ≠ d0 → H b = some u → (L2.upd H d0 (.frz od (.dK (kvI ps)))) b = some u := fun b u nb e => by rw [L2.upd_ne nb]; exact e
  refine look σ _ _ ef k0 ⟨d0, od, rfl, .inl ⟨kvI ps, L2.upd_same, fun D0 hD => ?_⟩⟩
  have nD : D0 ≠ d0 := by rintro rfl; rw [L2.upd_same] at hD; cases hD
  have hD0 : H D0 = none := by rw [L2.upd_ne nD] at hD; exact hD
  let Pv : Nat → Hp → Prop := fun i H2 => H2 d0 = some (.frz od (.dK (kvI ps))) ∧ (∀ b u, b ≠ d0 → H b = some u → H2 b = some u) ∧ H2 D0 = some (.dK ((kvI ps).take i))
  have hlen : (kvI ps).length = ps.length := by unfold kvI; rw [List.length_map]
  refine ⟨fun i m H2 => m = (kvI ps).length - i ∧ i ≤ (kvI ps).length ∧ Pv i H2, ⟨(kvI ps).length, by simp, Nat.zero_le _, ?_, ?_, ?_⟩, ?_⟩
  · rw [L2.upd_ne nD.symm, L2.upd_same]
  · intro b u nb e
    rw [L2.upd_ne (by rintro rfl; rw [hD0] at e; cases e)]
    exact k0 b u nb e
  · rw [L2.upd_same]; rfl
  · rintro i2 m H2 ⟨rfl, hi2, h1, h2, h3⟩
    by_cases hlt : i2 < (kvI ps).length
    · refine .inr ⟨⟨h1, hlt⟩, Pv (i2 + 1), fun H' p' => ⟨(kvI ps).length - (i2 + 1), by omega, rfl, hlt, p'⟩, fun x H' y => ?_⟩
      obtain ⟨e, k, v, hk, rfl⟩ := y
      subst e
      obtain ⟨n, hn2, rfl⟩ := kvI_any hk
      have hcσ : c < σ.length := by rw [sa.len]; exact hc
      have eW : ((wipe σ [c]).set c (some (kV k)))[c]? = some (some (kV k)) := List.getElem?_set_self (by rw [wipe_length]; exact hcσ)
      have eJ : ((wipe σ [c]).set c (some (kV k)))[j]? = some (some (.ref pf)) := by
        rw [List.getElem?_set_ne hjc.symm, wipe_get, if_neg (by simpa using hjc)]
        exact ef
      refine ⟨by rw [wipe_set (by simp), wipe_wipe], ?_⟩
      refine iteT (B := Pv (i2 + 1) H') ⟨_, eW, look _ _ _ eJ h2 ⟨_, eW, d0, .int n, rfl, .inl ⟨kvI ps, k, .inr ⟨od, h1⟩, rfl, (valV_at hn hn2).symm⟩, (kvI ps).take i2, k, rfl, h3, ?_, ?_, ?_, ?_⟩⟩
      · rw [List.length_take]; exact szl (by omega)
      · rw [L2.upd_ne nD.symm]; exact h1
      · intro b u nb e
        rw [L2.upd_ne (by rintro rfl; rw [hD0] at e; cases e)]
        exact h2 b u nb e
      · rw [L2.upd_same, List.take_add_one, hk]
        congr 1
        rw [putK_new]
        · rfl
        · intro z
          have nd : ((kvI ps).map (·.1)).Nodup := by unfold kvI; rw [List.map_map]; exact hn
          obtain ⟨q', hq', e'⟩ := List.mem_map.mp z
          obtain ⟨j2, hj2⟩ := List.mem_iff_getElem?.mp hq'
          rw [List.getElem?_take] at hj2
          split at hj2
          · rename_i hlt2
            have a1 : ((kvI ps).map (·.1))[j2]? = some k := by rw [List.getElem?_map, hj2]; exact congrArg some e'
            have a2 : ((kvI ps).map (·.1))[i2]? = some k := by rw [List.getElem?_map, hk]; rfl
            have := (List.getElem?_inj (by rw [List.length_map]; omega) nd).mp (a1.trans a2.symm)
            omega
          · cases hj2
    · have e : i2 = (kvI ps).length := by omega
      subst e
      rw [List.take_length] at h3
      refine .inl ⟨⟨h1, Nat.le_refl _⟩, h1, q D0 _ hD0 (fun b u e => ?_) (by rw [L2.upd_ne nD]; exact h3)⟩
      by_cases nb : b = d0
      · subst nb
        rw [L2.upd_same]
        rw [hd] at e
        exact e
      · rw [L2.upd_ne nb]; exact h2 b u nb e
/-- s = {..}; s[key] = value; .. -/
theorem q_copyput {j i c s : Nat} {ps : List (Key × Int)} {k : Key} {n : Int} {dk : D} (hj : Γ[j]? = some (some (.tup ds))) (hi : ds[i]? = some (.dct (kvI ps))) (hn : (ps.map (·.1)).Nodup) (hz : ps.length ≤ 100000) (hc : c < Γ.length) (hs : s < Γ.length) (hjc : j ≠ c)
    (hv : Ev K tv (Γ.set s none) (.int n)) (hk : Ev K tk (Γ.set s none) dk) (ek : Fl dk = some (kV k)) (hu : QS K u (Γ.set s (some (.dct (kvI (putP ps k n))))) nx rt) :
    QS K (tSeq (tAsg (tCopy K j i c) (gName s)) (tSeq (sDPut (tVar s) tk tv) u)) Γ nx rt := fun σ H E sa nn r => by
  refine copy_at sa hj hi hn hz hc hjc _ fun p H1 hp e1 h1 => ?_
  have sa1 : SA K H1 (σ.set s (some (.ref p))) (Γ.set s none) := by
    have := (sa.mono e1)
    refine ⟨by rw [List.length_set, List.length_set]; exact this.len, fun i2 d q => ?_⟩
    by_cases z : s = i2
    · subst z; rw [List.getElem?_set_self hs] at q; cases q
    · rw [List.getElem?_set_ne z] at q ⊢
      exact this.at_ i2 d q
  refine hv _ H1 sa1 _ fun v H2 e2 av => ?_
  refine ⟨.ref p, List.getElem?_set_self (by rw [sa.len]; exact hs), ?_⟩
  refine hk _ H2 (sa1.mono e2) _ fun y H3 e3 ay => ?_
  have h3 : H3 p = some (.dK (kvI ps)) := e3 _ _ (e2 _ _ h1)
  have hlen : (kvI ps).length = ps.length := by unfold kvI; rw [List.length_map]
  refine ⟨p, _, rfl, .inl ⟨kvI ps, k, h3, Fl.at ek ay, by rw [hlen]; exact szl hz, rfl⟩, ?_⟩
  have e4 : Same H (L2.upd H3 p (.dK (putK (kvI ps) k v))) := Same.mut ((e1.trans e2).trans e3) hp
  rw [show v = .int n from av, kvI_put] at e4 ⊢
  refine hu _ _ E ?_ (fun Γ' σ' H' a b c => nn Γ' σ' H' a (e4.trans b) c) fun d v H' a b c => r d v H' a (e4.trans b) c
  exact (sa.mono e4).set ⟨p, rfl, L2.upd_same⟩
end
end Wk
set_option Elab.async false
set_option linter.all false
set_option maxRecDepth 100000
/-! the program's walks as plain functions, its data -/
namespace Wk
open PySem L2
inductive Sl where
  | a | b | x
  deriving DecidableEq
def Sl.str : Sl → Str
  | .a => "a" | .b => "b" | .x => "x"
inductive Sm where
  | num (i : Int) | slot (s : Sl) | plus (l r : Sm) | minus (l r : Sm) | less (l r : Sm)
def Sm.dep : Sm → Nat
  | .num _ => 0 | .slot _ => 0 | .plus l r => max l.dep r.dep + 1 | .minus l r => max l.dep r.dep + 1 | .less l r => max l.dep r.dep + 1
def smD : Sm → D
  | .num i => .tup [.str "num", .int i]
  | .slot s => .tup [.str "slot", .str s.str]
  | .plus l r => .tup [.str "plus", smD l, smD r]
  | .minus l r => .tup [.str "minus", smD l, smD r]
  | .less l r => .tup [.str "less", smD l, smD r]
def reck (g : Sl → Int) : Sm → Int
  | .num i => i
  | .slot s => g s
  | .plus l r => reck g l + reck g r
  | .minus l r => reck g l - reck g r
  | .less l r => if reck g l < reck g r then 1 else 0
inductive Sp' where
  | read (s : Sl) (c : Nat) | write (c : Nat) (e : Sm) | letS (s : Sl) (e : Sm) | tell (e : Sm)
  | ifS (e : Sm) (p q : List Sp') | inner (p q : List Sp') | either (p q : List Sp') | out | retry
abbrev Pg := List Sp'
mutual
def spD' : Sp' → D
  | .read s c => .tup [.str "read", .str s.str, .int (c : Int)]
  | .write c e => .tup [.str "write", .int (c : Int), smD e]
  | .letS s e => .tup [.str "let", .str s.str, smD e]
  | .tell e => .tup [.str "tell", smD e]
  | .ifS e p q => .tup [.str "if", smD e, .tup (pgL p), .tup (pgL q)]
  | .inner p q => .tup [.str "inner", .tup (pgL p), .tup (pgL q)]
  | .either p q => .tup [.str "either", .tup (pgL p), .tup (pgL q)]
  | .out => .tup [.str "out"]
  | .retry => .tup [.str "retry"]
def pgL : Pg → List D
  | [] => []
  | s :: r => spD' s :: pgL r
end
def pgD (p : Pg) : D := .tup (pgL p)
mutual
/-- how deep, how many steps, cells below m, sums of what depth -/
def spDep : Sp' → Nat
  | .ifS _ p q => max (pgDep p) (pgDep q) + 1
  | .inner p q => max (pgDep p) (pgDep q) + 1
  | .either p q => max (pgDep p) (pgDep q) + 1
  | _ => 0
def pgDep : Pg → Nat
  | [] => 0
  | s :: r => max (spDep s) (pgDep r)
end
mutual
def spSize : Sp' → Nat
  | .ifS _ p q => pgSize p + pgSize q + 1
  | .inner p q => pgSize p + pgSize q + 1
  | .either p q => pgSize p + pgSize q + 1
  | _ => 1
def pgSize : Pg → Nat
  | [] => 0
  | s :: r => spSize s + pgSize r
end
mutual
def spOk (m : Nat) : Sp' → Prop
  | .read _ c => c < m
  | .write c e => c < m ∧ e.dep ≤ 3
  | .letS _ e => e.dep ≤ 3
  | .tell e => e.dep ≤ 3
  | .ifS e p q => e.dep ≤ 3 ∧ pgOk m p ∧ pgOk m q
  | .inner p q => pgOk m p ∧ pgOk m q
  | .either p q => pgOk m p ∧ pgOk m q
  | .out => True
  | .retry => True
def pgOk (m : Nat) : Pg → Prop
  | [] => True
  | s :: r => spOk m s ∧ pgOk m r
end
abbrev Ks := List (Key × Int)
def look (ps : Ks) (k : Key) : Option Int := (ps.find? fun q => decide (q.1 = k)).map (·.2)
def lookS (ps : Ks) (s : Sl) : Int := (look ps (.inr s.str)).getD 0
structure Fr where
  sl : Ks
  wr : Ks
  told : List Int
def frD (f : Fr) : D := .tup [.dct (kvI f.sl), .dct (kvI f.wr), .tup (f.told.map .int)]
structure FrOk (m : Nat) (f : Fr) : Prop where
  s1 : (f.sl.map (·.1)).Nodup
  s2 : ∀ q ∈ f.sl, ∃ s : Sl, q.1 = .inr s.str
  w1 : (f.wr.map (·.1)).Nodup
  w2 : ∀ q ∈ f.wr, ∃ c : Nat, c < m ∧ q.1 = .inl (c : Int)
inductive Wd where
  | on | out | retry | need (c : Nat)
  deriving DecidableEq
def wdD : Wd → D
  | .on => .str "on" | .out => .str "out" | .retry => .str "retry" | .need c => .int (c : Int)
def setSl (f : Fr) (s : Sl) (n : Int) : Fr := { f with sl := putP f.sl (.inr s.str) n }
def worthF (f : Fr) (e : Sm) : Int := reck (lookS f.sl) e
mutual
def stepOn (r : Ks) : Sp' → Fr → Wd × Fr
  | .read s c, f => match look f.wr (.inl (c : Int)) with
    | some n => (.on, setSl f s n)
    | none => match look r (.inl (c : Int)) with
      | some n => (.on, setSl f s n)
      | none => (.need c, f)
  | .write c e, f => (.on, { f with wr := putP f.wr (.inl (c : Int)) (worthF f e) })
  | .letS s e, f => (.on, setSl f s (worthF f e))
  | .tell e, f => (.on, { f with told := f.told ++ [worthF f e] })
  | .ifS e p q, f => if worthF f e > 0 then walkOn r p f else walkOn r q f
  | .inner p q, f => let x := walkOn r p f; if x.1 = .out then walkOn r q f else x
  | .either p q, f => let x := walkOn r p f; if x.1 = .retry then walkOn r q f else x
  | .out, f => (.out, f)
  | .retry, f => (.retry, f)
def walkOn (r : Ks) : Pg → Fr → Wd × Fr
  | [], f => (.on, f)
  | s :: t, f => let x := stepOn r s f; if x.1 = .on then walkOn r t x.2 else x
end
/-! ### what is put -/
theorem putP_key {ps : Ks} {k : Key} {n : Int} {q : Key × Int} (h : q ∈ putP ps k n) : q.1 = k ∨ q ∈ ps := by
  unfold putP at h
  split at h
  · obtain ⟨x, hx, e⟩ := List.mem_map.mp h
    split at e
    · rename_i z; left; rw [← e]; exact z
    · right; rw [← e]; exact hx
  · rcases List.mem_append.mp h with h | h
    · exact .inr h
    · left; rw [List.mem_singleton.mp h]
theorem putP_keys {ps : Ks} {k : Key} {n : Int} (h : k ∈ ps.map (·.1)) : (putP ps k n).map (·.1) = ps.map (·.1) := by
  unfold putP
  rw [if_pos]
  · rw [List.map_map]
    refine List.map_congr_left fun q _ => ?_
    simp only [Function.comp]
    split <;> rfl
  · obtain ⟨q, hq, e⟩ := List.mem_map.mp h
    exact List.any_eq_true.mpr ⟨q, hq, decide_eq_true e⟩
theorem putP_new {ps : Ks} {k : Key} {n : Int} (h : k ∉ ps.map (·.1)) : putP ps k n = ps ++ [(k, n)] := by
  unfold putP
  rw [if_neg]
  intro z
  obtain ⟨q, hq, e⟩ := List.any_eq_true.mp z
  exact h (List.mem_map.mpr ⟨q, hq, of_decide_eq_true e⟩)
theorem putP_nodup {ps : Ks} {k : Key} {n : Int} (h : (ps.map (·.1)).Nodup) : ((putP ps k n).map (·.1)).Nodup := by
  by_cases e : k ∈ ps.map (·.1)
  · rw [putP_keys e]; exact h
  · rw [putP_new e, List.map_append, List.nodup_append]
    refine ⟨h, by simp, fun x hx y hy => ?_⟩
    have : y = k := by simpa using hy
    subst this
    rintro rfl
    exact e hx
theorem FrOk.setSl {m : Nat} {f : Fr} (h : FrOk m f) (s : Sl) (n : Int) : FrOk m (setSl f s n) :=
  ⟨putP_nodup h.s1, fun q hq => (putP_key hq).elim (fun e => ⟨s, e⟩) (h.s2 q), h.w1, h.w2⟩
theorem FrOk.wr {m : Nat} {f : Fr} (h : FrOk m f) (c : Nat) (hc : c < m) (n : Int) : FrOk m { f with wr := putP f.wr (.inl (c : Int)) n } :=
  ⟨h.s1, h.s2, putP_nodup h.w1, fun q hq => (putP_key hq).elim (fun e => ⟨c, hc, e⟩) (h.w2 q)⟩
theorem FrOk.told {m : Nat} {f : Fr} (h : FrOk m f) (t : List Int) : FrOk m { f with told := t } := ⟨h.s1, h.s2, h.w1, h.w2⟩
def needOk (m : Nat) (r : Ks) : Wd → Prop
  | .need c => c < m ∧ look r (.inl (c : Int)) = none
  | _ => True
mutual
theorem stepOn_ok {m : Nat} {r : Ks} : ∀ {s : Sp'} {f : Fr}, spOk m s → FrOk m f → FrOk m (stepOn r s f).2 ∧ needOk m r (stepOn r s f).1 ∧ (stepOn r s f).2.told.length ≤ f.told.length + spSize s
  | .read s c, f, h, hf => by
    unfold stepOn
    split
    · exact ⟨hf.setSl _ _, trivial, by show f.told.length ≤ _; omega⟩
    · split
      · exact ⟨hf.setSl _ _, trivial, by show f.told.length ≤ _; omega⟩
      · rename_i e; exact ⟨hf, ⟨h, e⟩, by show f.told.length ≤ _; omega⟩
  | .write c e, f, h, hf => by unfold stepOn; exact ⟨hf.wr c h.1 _, trivial, by show f.told.length ≤ _; omega⟩
  | .letS s e, f, h, hf => by unfold stepOn; exact ⟨hf.setSl _ _, trivial, by show f.told.length ≤ _; omega⟩
  | .tell e, f, h, hf => by unfold stepOn; exact ⟨hf.told _, trivial, by show (f.told ++ [_]).length ≤ _; rw [List.length_append]; simp [spSize]⟩
  | .ifS e p q, f, h, hf => by
    unfold stepOn
    split
    · have := walkOn_ok (r := r) h.2.1 hf; refine ⟨this.1, this.2.1, ?_⟩; simp only [spSize]; omega
    · have := walkOn_ok (r := r) h.2.2 hf; refine ⟨this.1, this.2.1, ?_⟩; simp only [spSize]; omega
  | .inner p q, f, h, hf => by
    unfold stepOn
    have h1 := walkOn_ok (r := r) h.1 hf
    have h2 := walkOn_ok (r := r) h.2 hf
    simp only [spSize]
    split
    · exact ⟨h2.1, h2.2.1, by omega⟩
    · exact ⟨h1.1, h1.2.1, by omega⟩
  | .either p q, f, h, hf => by
    unfold stepOn
    have h1 := walkOn_ok (r := r) h.1 hf
    have h2 := walkOn_ok (r := r) h.2 hf
    simp only [spSize]
    split
    · exact ⟨h2.1, h2.2.1, by omega⟩
    · exact ⟨h1.1, h1.2.1, by omega⟩
  | .out, f, h, hf => by unfold stepOn; exact ⟨hf, trivial, by show f.told.length ≤ _; omega⟩
  | .retry, f, h, hf => by unfold stepOn; exact ⟨hf, trivial, by show f.told.length ≤ _; omega⟩
theorem walkOn_ok {m : Nat} {r : Ks} : ∀ {p : Pg} {f : Fr}, pgOk m p → FrOk m f → FrOk m (walkOn r p f).2 ∧ needOk m r (walkOn r p f).1 ∧ (walkOn r p f).2.told.length ≤ f.told.length + pgSize p
  | [], f, h, hf => by unfold walkOn; exact ⟨hf, trivial, by show f.told.length ≤ _; omega⟩
  | s :: t, f, h, hf => by
    unfold walkOn
    have h1 := stepOn_ok (r := r) h.1 hf
    have h2 := walkOn_ok (r := r) h.2 h1.1
    simp only [pgSize]
    split
    · exact ⟨h2.1, h2.2.1, by omega⟩
    · exact ⟨h1.1, h1.2.1, by omega⟩
end
/-! ### how a walk goes on -/
def rsK (rs : K70.RL) : Ks := rs.map fun q => (.inl (q.1 : Int), q.2)
def cellOf : Key → Nat
  | .inl i => i.toNat | .inr _ => 0
def sortRL : Ks → K70.RL
  | [] => []
  | q :: r => K70.ins (cellOf q.1, q.2) (sortRL r)
def goesOn (p : Pg) (rs : K70.RL) : K70.Res :=
  let x := walkOn (rsK rs) p ⟨[], [], []⟩
  match x.1 with
  | .on => .ended (sortRL x.2.wr)
  | .out => .dropped
  | .retry => .retries
  | .need c => .reads c
theorem fr0 {m : Nat} : FrOk m ⟨[], [], []⟩ := ⟨by simp, by simp, by simp, by simp⟩
theorem mem_sortRL {q : Nat × Int} : ∀ {w : Ks}, q ∈ sortRL w ↔ ∃ x ∈ w, q = (cellOf x.1, x.2)
  | [] => by simp [sortRL]
  | x :: r => by
    unfold sortRL
    rw [K70.mem_ins, mem_sortRL (w := r)]
    constructor
    · rintro (e | ⟨y, hy, e⟩)
      · exact ⟨x, List.mem_cons_self, e⟩
      · exact ⟨y, List.mem_cons_of_mem _ hy, e⟩
    · rintro ⟨y, hy, e⟩
      rcases List.mem_cons.mp hy with z | z
      · left; rw [e, z]
      · right; exact ⟨y, z, e⟩
theorem sortRL_ok {m : Nat} : ∀ {w : Ks}, (w.map (·.1)).Nodup → (∀ q ∈ w, ∃ c : Nat, c < m ∧ q.1 = .inl (c : Int)) → K70.LOk m (sortRL w)
  | [], _, _ => K70.LOk.nil
  | q :: r, h1, h2 => by
    rw [List.map_cons, List.nodup_cons] at h1
    obtain ⟨c, hc, e⟩ := h2 q List.mem_cons_self
    have ih := sortRL_ok h1.2 fun x hx => h2 x (List.mem_cons_of_mem _ hx)
    unfold sortRL
    refine ih.ins (by rw [e]; simpa [cellOf] using hc) fun z => ?_
    obtain ⟨y, hy, ey⟩ := List.mem_map.mp z
    obtain ⟨x, hx, ex⟩ := mem_sortRL.mp hy
    obtain ⟨c', _, e'⟩ := h2 x (List.mem_cons_of_mem _ hx)
    rw [ex, e, e'] at ey
    have : c' = c := by simpa [cellOf] using ey
    exact h1.1 (List.mem_map.mpr ⟨x, hx, by rw [e', e, this]⟩)
theorem look_none {ps : Ks} {k : Key} (h : look ps k = none) : k ∉ ps.map (·.1) := by
  intro z
  obtain ⟨q, hq, e⟩ := List.mem_map.mp z
  unfold look at h
  rw [Option.map_eq_none_iff, List.find?_eq_none] at h
  exact h q hq (decide_eq_true e)
theorem goesOn_rd {m : Nat} {p : Pg} (hp : pgOk m p) {rs : K70.RL} {c : Nat} (h : goesOn p rs = .reads c) : c < m ∧ c ∉ rs.map (·.1) := by
  have ok := walkOn_ok (r := rsK rs) hp fr0
  unfold goesOn at h
  cases e : (walkOn (rsK rs) p ⟨[], [], []⟩).1 with
  | need c' =>
    rw [e] at ok
    simp only [e] at h
    cases h
    refine ⟨ok.2.1.1, fun z => ?_⟩
    obtain ⟨q, hq, eq⟩ := List.mem_map.mp z
    exact look_none ok.2.1.2 (by unfold rsK; rw [List.map_map]; exact List.mem_map.mpr ⟨q, hq, by show Sum.inl (q.1 : Int) = _; rw [eq]⟩)
  | on => simp only [e] at h; cases h
  | out => simp only [e] at h; cases h
  | retry => simp only [e] at h; cases h
theorem goesOn_en {m : Nat} {p : Pg} (hp : pgOk m p) {rs : K70.RL} {ws : K70.RL} (h : goesOn p rs = .ended ws) : K70.LOk m ws := by
  have ok := walkOn_ok (r := rsK rs) hp fr0
  unfold goesOn at h
  cases e : (walkOn (rsK rs) p ⟨[], [], []⟩).1 with
  | need c' => simp only [e] at h; cases h
  | on => simp only [e] at h; cases h; exact sortRL_ok ok.1.w1 ok.1.w2
  | out => simp only [e] at h; cases h
  | retry => simp only [e] at h; cases h
/-! ### the crew -/
abbrev Crew := List (List Pg)
def prog (cw : Crew) (h k : Nat) : Pg := (cw.getD h []).getD k []
def crewP (cw : Crew) (m : Nat) : K70.P := ⟨cw.length, m, fun h => (cw.getD h []).length, fun h k rs => goesOn (prog cw h k) rs⟩
def CrewOk (m : Nat) (cw : Crew) : Prop := ∀ ps ∈ cw, ∀ p ∈ ps, pgOk m p ∧ pgDep p ≤ 3 ∧ pgSize p ≤ 10000
theorem crew_prog {m : Nat} {cw : Crew} (h : CrewOk m cw) (i k : Nat) : pgOk m (prog cw i k) ∧ pgDep (prog cw i k) ≤ 3 ∧ pgSize (prog cw i k) ≤ 10000 := by
  unfold prog
  have e0 : pgOk m [] ∧ pgDep [] ≤ 3 ∧ pgSize [] ≤ 10000 := ⟨trivial, Nat.zero_le _, Nat.zero_le _⟩
  rw [List.getD_eq_getElem?_getD, List.getD_eq_getElem?_getD]
  cases e1 : cw[i]? with
  | none => simpa using e0
  | some ps =>
    simp only [Option.getD_some]
    cases e2 : ps[k]? with
    | none => exact e0
    | some p => exact h ps (List.mem_of_getElem? e1) p (List.mem_of_getElem? e2)
theorem crew_ok {m : Nat} {cw : Crew} (h : CrewOk m cw) : K70.POk (crewP cw m) :=
  ⟨fun i k rs c e => goesOn_rd (crew_prog h i k).1 e, fun i k rs ws e => goesOn_en (crew_prog h i k).1 e⟩
/-! ### states as data -/
def rsD (rs : K70.RL) : List D := rs.map fun q => .tup [.int (q.1 : Int), .int q.2]
def optN : Option Nat → D
  | none => .non | some h => .int (h : Int)
def optI : Option Int → D
  | none => .non | some h => .int h
def cellD (c : K70.Cell) : D := .tup [.int c.num, .int c.stamp, optN c.holder]
def phS : K70.Row → Str
  | .new _ _ => "new" | .walks _ _ _ _ => "walks" | .locks _ _ _ _ _ _ => "locks" | .checks _ _ _ _ _ _ _ => "checks" | .backs _ _ _ _ _ _ _ => "backs" | .sleeps _ _ _ _ => "sleeps" | .through _ => "through"
def dn : K70.Row → Nat
  | .locks _ _ _ _ _ d => d | .checks _ _ _ _ _ _ d => d | .backs _ _ _ _ _ _ d => d | _ => 0
def rowL (r : K70.Row) : List D := [.int (r.k : Int), .str (phS r), optI r.tk, optI r.rv, optI r.wv, .ptup (rsD r.rs), .int (dn r : Int)]
def rowD (r : K70.Row) : D := .tup (rowL r)
def cellsL (m : Nat) (cells : Nat → K70.Cell) : List D := (List.range m).map fun c => cellD (cells c)
def rowsL (H : Nat) (rows : Nat → K70.Row) : List D := (List.range H).map fun i => rowD (rows i)
def handsL (cw : Crew) : List D := cw.map fun ps => .tup (ps.map pgD)
def stD (cw : Crew) (m : Nat) (s : K70.S) : D := .tup [.tup (handsL cw), .int s.clock, .int s.tickets, .tup (cellsL m s.cells), .tup (rowsL cw.length s.rows)]
theorem cellsL_len {m : Nat} {cells : Nat → K70.Cell} : (cellsL m cells).length = m := by simp [cellsL]
theorem rowsL_len {H : Nat} {rows : Nat → K70.Row} : (rowsL H rows).length = H := by simp [rowsL]
theorem cellsL_get {m : Nat} {cells : Nat → K70.Cell} {c : Nat} (h : c < m) : (cellsL m cells)[c]? = some (cellD (cells c)) := by simp [cellsL, List.getElem?_map, List.getElem?_range h]
theorem rowsL_get {H : Nat} {rows : Nat → K70.Row} {i : Nat} (h : i < H) : (rowsL H rows)[i]? = some (rowD (rows i)) := by simp [rowsL, List.getElem?_map, List.getElem?_range h]
theorem handsL_get {cw : Crew} {i : Nat} (h : i < cw.length) : (handsL cw)[i]? = some (.tup ((cw.getD i []).map pgD)) := by
  unfold handsL
  rw [List.getElem?_map, List.getD_eq_getElem?_getD, List.getElem?_eq_getElem h]
  rfl
theorem upd_list {α : Type} {n i : Nat} {f : Nat → α} {g : α → D} {x : α} (h : i < n) : ((List.range n).map fun j => g (f j)).take i ++ [g x] ++ ((List.range n).map fun j => g (f j)).drop (i + 1) = (List.range n).map fun j => g (K70.upd f i x j) := by
  refine List.ext_getElem? fun j => ?_
  have hl : (((List.range n).map fun j => g (f j)).take i).length = i := by simp; omega
  by_cases hj : j < n
  · have hr : ((List.range n).map fun j => g (K70.upd f i x j))[j]? = some (g (K70.upd f i x j)) := by rw [List.getElem?_map, List.getElem?_range hj]; rfl
    have ho : ((List.range n).map fun j => g (f j))[j]? = some (g (f j)) := by rw [List.getElem?_map, List.getElem?_range hj]; rfl
    rw [hr]
    rcases Nat.lt_trichotomy j i with h1 | h1 | h1
    · rw [List.append_assoc, List.getElem?_append_left (by omega), List.getElem?_take_of_lt h1, ho, K70.upd_ne (by omega)]
    · subst h1
      rw [List.append_assoc, List.getElem?_append_right (by omega), hl, Nat.sub_self, K70.upd_same]
      rfl
    · rw [List.getElem?_append_right (by rw [List.length_append, hl]; simp; omega), List.length_append, hl, List.getElem?_drop]
      simp only [List.length_singleton]
      rw [show i + 1 + (j - (i + 1)) = j by omega, ho, K70.upd_ne (by omega)]
  · rw [List.getElem?_eq_none (by simp; omega), List.getElem?_eq_none (by simp; omega)]
end Wk
set_option Elab.async false
set_option linter.all false
set_option maxRecDepth 100000
set_option maxHeartbeats 1000000
/-! the text by its places; what its top has left -/
namespace Wk
open PySem PySem.Spec PyProof.Rows L2
def top (i : Nat) : Stmt := PySem.Challenge.pw_cellpacts_k70_whole_fair_gets_quiet.main.body.getD i (.Pass ⟨0, 0, 0, 0⟩)
abbrev s_is_number : Stmt := top 5
abbrev N_is_number : List Str := ["thing"]
theorem sc_is_number : FnScope N_is_number ["thing"] (defScope s_is_number) := ⟨rfl, rfl, rfl, by decide +kernel, rfl, by decide +kernel, by decide +kernel⟩
theorem b_is_number {K : PySem.W.Frag} {f : Addr} {fd : FuncData} (F : Fun K "is_number" "is_number" s_is_number f fd) : Binds K fd ["thing"] [] := F.binds (ps := ["thing"]) fun _ _ _ _ _ _ us hl => match us, hl with | [_], _ => rfl
abbrev s_need_hand : Stmt := top 8
abbrev N_need_hand : List Str := ["state", "hand"]
theorem sc_need_hand : FnScope N_need_hand ["state", "hand"] (defScope s_need_hand) := ⟨rfl, rfl, rfl, by decide +kernel, rfl, by decide +kernel, by decide +kernel⟩
theorem b_need_hand {K : PySem.W.Frag} {f : Addr} {fd : FuncData} (F : Fun K "need_hand" "need_hand" s_need_hand f fd) : Binds K fd ["state", "hand"] [] := F.binds (ps := ["state", "hand"]) fun _ _ _ _ _ _ us hl => match us, hl with | [_, _], _ => rfl
abbrev s_row_new : Stmt := top 9
abbrev N_row_new : List Str := ["programs", "k", "ticket"]
theorem sc_row_new : FnScope N_row_new ["programs", "k", "ticket"] (defScope s_row_new) := ⟨rfl, rfl, rfl, by decide +kernel, rfl, by decide +kernel, by decide +kernel⟩
theorem b_row_new {K : PySem.W.Frag} {f : Addr} {fd : FuncData} (F : Fun K "row_new" "row_new" s_row_new f fd) : Binds K fd ["programs", "k", "ticket"] [] := F.binds (ps := ["programs", "k", "ticket"]) fun _ _ _ _ _ _ us hl => match us, hl with | [_, _, _], _ => rfl
abbrev s_begun : Stmt := top 10
abbrev N_begun : List Str := ["cells", "hands", "held", "number", "programs"]
theorem sc_begun : FnScope N_begun ["cells", "hands"] (defScope s_begun) := ⟨rfl, rfl, rfl, by decide +kernel, rfl, by decide +kernel, by decide +kernel⟩
theorem b_begun {K : PySem.W.Frag} {f : Addr} {fd : FuncData} (F : Fun K "begun" "begun" s_begun f fd) : Binds K fd ["cells", "hands"] [] := F.binds (ps := ["cells", "hands"]) fun _ _ _ _ _ _ us hl => match us, hl with | [_, _], _ => rfl
abbrev s_is_quiet : Stmt := top 11
abbrev N_is_quiet : List Str := ["state", "row"]
theorem sc_is_quiet : FnScope N_is_quiet ["state"] (defScope s_is_quiet) := ⟨rfl, rfl, rfl, by decide +kernel, rfl, by decide +kernel, by decide +kernel⟩
theorem b_is_quiet {K : PySem.W.Frag} {f : Addr} {fd : FuncData} (F : Fun K "is_quiet" "is_quiet" s_is_quiet f fd) : Binds K fd ["state"] [] := F.binds (ps := ["state"]) fun _ _ _ _ _ _ us hl => match us, hl with | [_], _ => rfl
abbrev s_with_row : Stmt := top 12
abbrev N_with_row : List Str := ["state", "hand", "row", "hands", "clock", "tickets", "cells", "rows"]
theorem sc_with_row : FnScope N_with_row ["state", "hand", "row"] (defScope s_with_row) := ⟨rfl, rfl, rfl, by decide +kernel, rfl, by decide +kernel, by decide +kernel⟩
theorem b_with_row {K : PySem.W.Frag} {f : Addr} {fd : FuncData} (F : Fun K "with_row" "with_row" s_with_row f fd) : Binds K fd ["state", "hand", "row"] [] := F.binds (ps := ["state", "hand", "row"]) fun _ _ _ _ _ _ us hl => match us, hl with | [_, _, _], _ => rfl
abbrev s_with_cell : Stmt := top 13
abbrev N_with_cell : List Str := ["state", "cell", "held", "hands", "clock", "tickets", "cells", "rows"]
theorem sc_with_cell : FnScope N_with_cell ["state", "cell", "held"] (defScope s_with_cell) := ⟨rfl, rfl, rfl, by decide +kernel, rfl, by decide +kernel, by decide +kernel⟩
theorem b_with_cell {K : PySem.W.Frag} {f : Addr} {fd : FuncData} (F : Fun K "with_cell" "with_cell" s_with_cell f fd) : Binds K fd ["state", "cell", "held"] [] := F.binds (ps := ["state", "cell", "held"]) fun _ _ _ _ _ _ us hl => match us, hl with | [_, _, _], _ => rfl
abbrev s_freed : Stmt := top 14
abbrev N_freed : List Str := ["state", "hand", "hands", "clock", "tickets", "cells", "rows", "found", "number", "stamp", "holder"]
theorem sc_freed : FnScope N_freed ["state", "hand"] (defScope s_freed) := ⟨rfl, rfl, rfl, by decide +kernel, rfl, by decide +kernel, by decide +kernel⟩
theorem b_freed {K : PySem.W.Frag} {f : Addr} {fd : FuncData} (F : Fun K "freed" "freed" s_freed f fd) : Binds K fd ["state", "hand"] [] := F.binds (ps := ["state", "hand"]) fun _ _ _ _ _ _ us hl => match us, hl with | [_, _], _ => rfl
abbrev s_given_up : Stmt := top 15
abbrev N_given_up : List Str := ["state", "hand", "k", "phase", "ticket", "rv", "wv", "reads", "done"]
theorem sc_given_up : FnScope N_given_up ["state", "hand"] (defScope s_given_up) := ⟨rfl, rfl, rfl, by decide +kernel, rfl, by decide +kernel, by decide +kernel⟩
theorem b_given_up {K : PySem.W.Frag} {f : Addr} {fd : FuncData} (F : Fun K "given_up" "given_up" s_given_up f fd) : Binds K fd ["state", "hand"] [] := F.binds (ps := ["state", "hand"]) fun _ _ _ _ _ _ us hl => match us, hl with | [_, _], _ => rfl
abbrev s_done_with : Stmt := top 16
abbrev N_done_with : List Str := ["state", "hand"]
theorem sc_done_with : FnScope N_done_with ["state", "hand"] (defScope s_done_with) := ⟨rfl, rfl, rfl, by decide +kernel, rfl, by decide +kernel, by decide +kernel⟩
theorem b_done_with {K : PySem.W.Frag} {f : Addr} {fd : FuncData} (F : Fun K "done_with" "done_with" s_done_with f fd) : Binds K fd ["state", "hand"] [] := F.binds (ps := ["state", "hand"]) fun _ _ _ _ _ _ us hl => match us, hl with | [_, _], _ => rfl
abbrev s_reckoned : Stmt := top 18
abbrev N_reckoned : List Str := ["amount", "given", "word", "rest", "one", "other"]
theorem sc_reckoned : FnScope N_reckoned ["amount", "given"] (defScope s_reckoned) := ⟨rfl, rfl, rfl, by decide +kernel, rfl, by decide +kernel, by decide +kernel⟩
theorem b_reckoned {K : PySem.W.Frag} {f : Addr} {fd : FuncData} (F : Fun K "reckoned" "reckoned" s_reckoned f fd) : Binds K fd ["amount", "given"] [] := F.binds (ps := ["amount", "given"]) fun _ _ _ _ _ _ us hl => match us, hl with | [_, _], _ => rfl
abbrev s_worth : Stmt := top 19
abbrev N_worth : List Str := ["amount", "slots"]
theorem sc_worth : FnScope N_worth ["amount", "slots"] (defScope s_worth) := ⟨rfl, rfl, rfl, by decide +kernel, rfl, by decide +kernel, by decide +kernel⟩
abbrev s_fresh : Stmt := top 22
abbrev N_fresh : List Str := []
theorem sc_fresh : FnScope N_fresh [] (defScope s_fresh) := ⟨rfl, rfl, rfl, by decide +kernel, rfl, by decide +kernel, by decide +kernel⟩
theorem b_fresh {K : PySem.W.Frag} {f : Addr} {fd : FuncData} (F : Fun K "fresh" "fresh" s_fresh f fd) : Binds K fd [] [] := F.binds (ps := []) fun _ _ _ _ _ _ us hl => match us, hl with | [], _ => rfl
abbrev s_weighed : Stmt := top 23
abbrev N_weighed : List Str := ["amount", "frame"]
theorem sc_weighed : FnScope N_weighed ["amount", "frame"] (defScope s_weighed) := ⟨rfl, rfl, rfl, by decide +kernel, rfl, by decide +kernel, by decide +kernel⟩
theorem b_weighed {K : PySem.W.Frag} {f : Addr} {fd : FuncData} (F : Fun K "weighed" "weighed" s_weighed f fd) : Binds K fd ["amount", "frame"] [] := F.binds (ps := ["amount", "frame"]) fun _ _ _ _ _ _ us hl => match us, hl with | [_, _], _ => rfl
abbrev s_with_slot : Stmt := top 24
abbrev N_with_slot : List Str := ["frame", "slot", "number", "slots", "name"]
theorem sc_with_slot : FnScope N_with_slot ["frame", "slot", "number"] (defScope s_with_slot) := ⟨rfl, rfl, rfl, by decide +kernel, rfl, by decide +kernel, by decide +kernel⟩
theorem b_with_slot {K : PySem.W.Frag} {f : Addr} {fd : FuncData} (F : Fun K "with_slot" "with_slot" s_with_slot f fd) : Binds K fd ["frame", "slot", "number"] [] := F.binds (ps := ["frame", "slot", "number"]) fun _ _ _ _ _ _ us hl => match us, hl with | [_, _, _], _ => rfl
abbrev s_read_on : Stmt := top 25
abbrev N_read_on : List Str := ["step", "frame", "reads", "word", "slot", "cell"]
theorem sc_read_on : FnScope N_read_on ["step", "frame", "reads"] (defScope s_read_on) := ⟨rfl, rfl, rfl, by decide +kernel, rfl, by decide +kernel, by decide +kernel⟩
theorem b_read_on {K : PySem.W.Frag} {f : Addr} {fd : FuncData} (F : Fun K "read_on" "read_on" s_read_on f fd) : Binds K fd ["step", "frame", "reads"] [] := F.binds (ps := ["step", "frame", "reads"]) fun _ _ _ _ _ _ us hl => match us, hl with | [_, _, _], _ => rfl
abbrev s_write_on : Stmt := top 26
abbrev N_write_on : List Str := ["step", "frame", "reads", "writes", "cell"]
theorem sc_write_on : FnScope N_write_on ["step", "frame", "reads"] (defScope s_write_on) := ⟨rfl, rfl, rfl, by decide +kernel, rfl, by decide +kernel, by decide +kernel⟩
theorem b_write_on {K : PySem.W.Frag} {f : Addr} {fd : FuncData} (F : Fun K "write_on" "write_on" s_write_on f fd) : Binds K fd ["step", "frame", "reads"] [] := F.binds (ps := ["step", "frame", "reads"]) fun _ _ _ _ _ _ us hl => match us, hl with | [_, _, _], _ => rfl
abbrev s_let_on : Stmt := top 27
abbrev N_let_on : List Str := ["step", "frame", "reads"]
theorem sc_let_on : FnScope N_let_on ["step", "frame", "reads"] (defScope s_let_on) := ⟨rfl, rfl, rfl, by decide +kernel, rfl, by decide +kernel, by decide +kernel⟩
theorem b_let_on {K : PySem.W.Frag} {f : Addr} {fd : FuncData} (F : Fun K "let_on" "let_on" s_let_on f fd) : Binds K fd ["step", "frame", "reads"] [] := F.binds (ps := ["step", "frame", "reads"]) fun _ _ _ _ _ _ us hl => match us, hl with | [_, _, _], _ => rfl
abbrev s_tell_on : Stmt := top 28
abbrev N_tell_on : List Str := ["step", "frame", "reads"]
theorem sc_tell_on : FnScope N_tell_on ["step", "frame", "reads"] (defScope s_tell_on) := ⟨rfl, rfl, rfl, by decide +kernel, rfl, by decide +kernel, by decide +kernel⟩
theorem b_tell_on {K : PySem.W.Frag} {f : Addr} {fd : FuncData} (F : Fun K "tell_on" "tell_on" s_tell_on f fd) : Binds K fd ["step", "frame", "reads"] [] := F.binds (ps := ["step", "frame", "reads"]) fun _ _ _ _ _ _ us hl => match us, hl with | [_, _, _], _ => rfl
abbrev s_if_on : Stmt := top 29
abbrev N_if_on : List Str := ["step", "frame", "reads"]
theorem sc_if_on : FnScope N_if_on ["step", "frame", "reads"] (defScope s_if_on) := ⟨rfl, rfl, rfl, by decide +kernel, rfl, by decide +kernel, by decide +kernel⟩
theorem b_if_on {K : PySem.W.Frag} {f : Addr} {fd : FuncData} (F : Fun K "if_on" "if_on" s_if_on f fd) : Binds K fd ["step", "frame", "reads"] [] := F.binds (ps := ["step", "frame", "reads"]) fun _ _ _ _ _ _ us hl => match us, hl with | [_, _, _], _ => rfl
abbrev s_inner_on : Stmt := top 30
abbrev N_inner_on : List Str := ["step", "frame", "reads", "word", "later"]
theorem sc_inner_on : FnScope N_inner_on ["step", "frame", "reads"] (defScope s_inner_on) := ⟨rfl, rfl, rfl, by decide +kernel, rfl, by decide +kernel, by decide +kernel⟩
theorem b_inner_on {K : PySem.W.Frag} {f : Addr} {fd : FuncData} (F : Fun K "inner_on" "inner_on" s_inner_on f fd) : Binds K fd ["step", "frame", "reads"] [] := F.binds (ps := ["step", "frame", "reads"]) fun _ _ _ _ _ _ us hl => match us, hl with | [_, _, _], _ => rfl
abbrev s_either_on : Stmt := top 31
abbrev N_either_on : List Str := ["step", "frame", "reads", "word", "later"]
theorem sc_either_on : FnScope N_either_on ["step", "frame", "reads"] (defScope s_either_on) := ⟨rfl, rfl, rfl, by decide +kernel, rfl, by decide +kernel, by decide +kernel⟩
theorem b_either_on {K : PySem.W.Frag} {f : Addr} {fd : FuncData} (F : Fun K "either_on" "either_on" s_either_on f fd) : Binds K fd ["step", "frame", "reads"] [] := F.binds (ps := ["step", "frame", "reads"]) fun _ _ _ _ _ _ us hl => match us, hl with | [_, _, _], _ => rfl
abbrev s_leave_on : Stmt := top 32
abbrev N_leave_on : List Str := ["step", "frame", "reads"]
theorem sc_leave_on : FnScope N_leave_on ["step", "frame", "reads"] (defScope s_leave_on) := ⟨rfl, rfl, rfl, by decide +kernel, rfl, by decide +kernel, by decide +kernel⟩
theorem b_leave_on {K : PySem.W.Frag} {f : Addr} {fd : FuncData} (F : Fun K "leave_on" "leave_on" s_leave_on f fd) : Binds K fd ["step", "frame", "reads"] [] := F.binds (ps := ["step", "frame", "reads"]) fun _ _ _ _ _ _ us hl => match us, hl with | [_, _, _], _ => rfl
abbrev s_walk_on : Stmt := top 34
abbrev N_walk_on : List Str := ["program", "frame", "reads", "step", "deed", "word"]
theorem sc_walk_on : FnScope N_walk_on ["program", "frame", "reads"] (defScope s_walk_on) := ⟨rfl, rfl, rfl, by decide +kernel, rfl, by decide +kernel, by decide +kernel⟩
theorem b_walk_on {K : PySem.W.Frag} {f : Addr} {fd : FuncData} (F : Fun K "walk_on" "walk_on" s_walk_on f fd) : Binds K fd ["program", "frame", "reads"] [] := F.binds (ps := ["program", "frame", "reads"]) fun _ _ _ _ _ _ us hl => match us, hl with | [_, _, _], _ => rfl
abbrev s_goes_on : Stmt := top 35
abbrev N_goes_on : List Str := ["program", "reads", "word", "slots", "writes", "told"]
theorem sc_goes_on : FnScope N_goes_on ["program", "reads"] (defScope s_goes_on) := ⟨rfl, rfl, rfl, by decide +kernel, rfl, by decide +kernel, by decide +kernel⟩
theorem b_goes_on {K : PySem.W.Frag} {f : Addr} {fd : FuncData} (F : Fun K "goes_on" "goes_on" s_goes_on f fd) : Binds K fd ["program", "reads"] [] := F.binds (ps := ["program", "reads"]) fun _ _ _ _ _ _ us hl => match us, hl with | [_, _], _ => rfl
abbrev s_pact_of : Stmt := top 38
abbrev N_pact_of : List Str := ["state", "hand"]
theorem sc_pact_of : FnScope N_pact_of ["state", "hand"] (defScope s_pact_of) := ⟨rfl, rfl, rfl, by decide +kernel, rfl, by decide +kernel, by decide +kernel⟩
theorem b_pact_of {K : PySem.W.Frag} {f : Addr} {fd : FuncData} (F : Fun K "pact_of" "pact_of" s_pact_of f fd) : Binds K fd ["state", "hand"] [] := F.binds (ps := ["state", "hand"]) fun _ _ _ _ _ _ us hl => match us, hl with | [_, _], _ => rfl
abbrev s_gives : Stmt := top 39
abbrev N_gives : List Str := ["state", "hand", "why"]
theorem sc_gives : FnScope N_gives ["state", "hand", "why"] (defScope s_gives) := ⟨rfl, rfl, rfl, by decide +kernel, rfl, by decide +kernel, by decide +kernel⟩
theorem b_gives {K : PySem.W.Frag} {f : Addr} {fd : FuncData} (F : Fun K "gives" "gives" s_gives f fd) : Binds K fd ["state", "hand", "why"] [] := F.binds (ps := ["state", "hand", "why"]) fun _ _ _ _ _ _ us hl => match us, hl with | [_, _, _], _ => rfl
abbrev s_rests : Stmt := top 40
abbrev N_rests : List Str := ["state", "hand"]
theorem sc_rests : FnScope N_rests ["state", "hand"] (defScope s_rests) := ⟨rfl, rfl, rfl, by decide +kernel, rfl, by decide +kernel, by decide +kernel⟩
theorem b_rests {K : PySem.W.Frag} {f : Addr} {fd : FuncData} (F : Fun K "rests" "rests" s_rests f fd) : Binds K fd ["state", "hand"] [] := F.binds (ps := ["state", "hand"]) fun _ _ _ _ _ _ us hl => match us, hl with | [_, _], _ => rfl
abbrev s_begins : Stmt := top 41
abbrev N_begins : List Str := ["state", "hand", "hands", "clock", "tickets", "cells", "rows", "k", "phase", "ticket", "rest", "row"]
theorem sc_begins : FnScope N_begins ["state", "hand"] (defScope s_begins) := ⟨rfl, rfl, rfl, by decide +kernel, rfl, by decide +kernel, by decide +kernel⟩
theorem b_begins {K : PySem.W.Frag} {f : Addr} {fd : FuncData} (F : Fun K "begins" "begins" s_begins f fd) : Binds K fd ["state", "hand"] [] := F.binds (ps := ["state", "hand"]) fun _ _ _ _ _ _ us hl => match us, hl with | [_, _], _ => rfl
abbrev s_reads_cell : Stmt := top 42
abbrev N_reads_cell : List Str := ["state", "hand", "cell", "number", "stamp", "holder", "k", "phase", "ticket", "rv", "wv", "reads", "done", "row"]
theorem sc_reads_cell : FnScope N_reads_cell ["state", "hand", "cell"] (defScope s_reads_cell) := ⟨rfl, rfl, rfl, by decide +kernel, rfl, by decide +kernel, by decide +kernel⟩
theorem b_reads_cell {K : PySem.W.Frag} {f : Addr} {fd : FuncData} (F : Fun K "reads_cell" "reads_cell" s_reads_cell f fd) : Binds K fd ["state", "hand", "cell"] [] := F.binds (ps := ["state", "hand", "cell"]) fun _ _ _ _ _ _ us hl => match us, hl with | [_, _, _], _ => rfl
abbrev s_retries : Stmt := top 43
abbrev N_retries : List Str := ["state", "hand", "k", "phase", "ticket", "rv", "wv", "reads", "done", "late", "row", "cell", "number"]
theorem sc_retries : FnScope N_retries ["state", "hand"] (defScope s_retries) := ⟨rfl, rfl, rfl, by decide +kernel, rfl, by decide +kernel, by decide +kernel⟩
theorem b_retries {K : PySem.W.Frag} {f : Addr} {fd : FuncData} (F : Fun K "retries" "retries" s_retries f fd) : Binds K fd ["state", "hand"] [] := F.binds (ps := ["state", "hand"]) fun _ _ _ _ _ _ us hl => match us, hl with | [_, _], _ => rfl
abbrev s_walks : Stmt := top 44
abbrev N_walks : List Str := ["state", "hand", "k", "phase", "ticket", "rv", "wv", "reads", "done", "word", "rest", "told", "writes"]
theorem sc_walks : FnScope N_walks ["state", "hand"] (defScope s_walks) := ⟨rfl, rfl, rfl, by decide +kernel, rfl, by decide +kernel, by decide +kernel⟩
theorem b_walks {K : PySem.W.Frag} {f : Addr} {fd : FuncData} (F : Fun K "walks" "walks" s_walks f fd) : Binds K fd ["state", "hand"] [] := F.binds (ps := ["state", "hand"]) fun _ _ _ _ _ _ us hl => match us, hl with | [_, _], _ => rfl
abbrev s_locks_next : Stmt := top 45
abbrev N_locks_next : List Str := ["state", "hand", "writes", "k", "phase", "ticket", "rv", "wv", "reads", "done", "cell", "number", "stamp", "holder", "later"]
theorem sc_locks_next : FnScope N_locks_next ["state", "hand", "writes"] (defScope s_locks_next) := ⟨rfl, rfl, rfl, by decide +kernel, rfl, by decide +kernel, by decide +kernel⟩
theorem b_locks_next {K : PySem.W.Frag} {f : Addr} {fd : FuncData} (F : Fun K "locks_next" "locks_next" s_locks_next f fd) : Binds K fd ["state", "hand", "writes"] [] := F.binds (ps := ["state", "hand", "writes"]) fun _ _ _ _ _ _ us hl => match us, hl with | [_, _, _], _ => rfl
abbrev s_written_by : Stmt := top 46
abbrev N_written_by : List Str := ["state", "hand", "word", "told", "writes"]
theorem sc_written_by : FnScope N_written_by ["state", "hand"] (defScope s_written_by) := ⟨rfl, rfl, rfl, by decide +kernel, rfl, by decide +kernel, by decide +kernel⟩
theorem b_written_by {K : PySem.W.Frag} {f : Addr} {fd : FuncData} (F : Fun K "written_by" "written_by" s_written_by f fd) : Binds K fd ["state", "hand"] [] := F.binds (ps := ["state", "hand"]) fun _ _ _ _ _ _ us hl => match us, hl with | [_, _], _ => rfl
abbrev s_sure_by : Stmt := top 47
abbrev N_sure_by : List Str := ["state", "hand", "k", "phase", "ticket", "rv", "wv", "reads", "done"]
theorem sc_sure_by : FnScope N_sure_by ["state", "hand"] (defScope s_sure_by) := ⟨rfl, rfl, rfl, by decide +kernel, rfl, by decide +kernel, by decide +kernel⟩
theorem b_sure_by {K : PySem.W.Frag} {f : Addr} {fd : FuncData} (F : Fun K "sure_by" "sure_by" s_sure_by f fd) : Binds K fd ["state", "hand"] [] := F.binds (ps := ["state", "hand"]) fun _ _ _ _ _ _ us hl => match us, hl with | [_, _], _ => rfl
abbrev s_locks : Stmt := top 48
abbrev N_locks : List Str := ["state", "hand", "hands", "clock", "tickets", "cells", "rows", "k", "phase", "ticket", "rv", "wv", "reads", "done", "told", "writes", "row", "later"]
theorem sc_locks : FnScope N_locks ["state", "hand"] (defScope s_locks) := ⟨rfl, rfl, rfl, by decide +kernel, rfl, by decide +kernel, by decide +kernel⟩
theorem b_locks {K : PySem.W.Frag} {f : Addr} {fd : FuncData} (F : Fun K "locks" "locks" s_locks f fd) : Binds K fd ["state", "hand"] [] := F.binds (ps := ["state", "hand"]) fun _ _ _ _ _ _ us hl => match us, hl with | [_, _], _ => rfl
abbrev s_checks : Stmt := top 49
abbrev N_checks : List Str := ["state", "hand", "k", "phase", "ticket", "rv", "wv", "reads", "done", "cell", "number", "stamp", "holder", "other", "is_last", "row", "later"]
theorem sc_checks : FnScope N_checks ["state", "hand"] (defScope s_checks) := ⟨rfl, rfl, rfl, by decide +kernel, rfl, by decide +kernel, by decide +kernel⟩
theorem b_checks {K : PySem.W.Frag} {f : Addr} {fd : FuncData} (F : Fun K "checks" "checks" s_checks f fd) : Binds K fd ["state", "hand"] [] := F.binds (ps := ["state", "hand"]) fun _ _ _ _ _ _ us hl => match us, hl with | [_, _], _ => rfl
abbrev s_woken_by : Stmt := top 50
abbrev N_woken_by : List Str := ["state", "cell", "rows", "hand"]
theorem sc_woken_by : FnScope N_woken_by ["state", "cell"] (defScope s_woken_by) := ⟨rfl, rfl, rfl, by decide +kernel, rfl, by decide +kernel, by decide +kernel⟩
theorem b_woken_by {K : PySem.W.Frag} {f : Addr} {fd : FuncData} (F : Fun K "woken_by" "woken_by" s_woken_by f fd) : Binds K fd ["state", "cell"] [] := F.binds (ps := ["state", "cell"]) fun _ _ _ _ _ _ us hl => match us, hl with | [_, _], _ => rfl
abbrev s_backs : Stmt := top 51
abbrev N_backs : List Str := ["state", "hand", "k", "phase", "ticket", "rv", "wv", "reads", "done", "told", "writes", "cell", "number", "woken", "later", "one", "end"]
theorem sc_backs : FnScope N_backs ["state", "hand"] (defScope s_backs) := ⟨rfl, rfl, rfl, by decide +kernel, rfl, by decide +kernel, by decide +kernel⟩
theorem b_backs {K : PySem.W.Frag} {f : Addr} {fd : FuncData} (F : Fun K "backs" "backs" s_backs f fd) : Binds K fd ["state", "hand"] [] := F.binds (ps := ["state", "hand"]) fun _ _ _ _ _ _ us hl => match us, hl with | [_, _], _ => rfl
abbrev s_step : Stmt := top 53
abbrev N_step : List Str := ["state", "hand", "deed"]
theorem sc_step : FnScope N_step ["state", "hand"] (defScope s_step) := ⟨rfl, rfl, rfl, by decide +kernel, rfl, by decide +kernel, by decide +kernel⟩
theorem b_step {K : PySem.W.Frag} {f : Addr} {fd : FuncData} (F : Fun K "step" "step" s_step f fd) : Binds K fd ["state", "hand"] [] := F.binds (ps := ["state", "hand"]) fun _ _ _ _ _ _ us hl => match us, hl with | [_, _], _ => rfl
abbrev s_laid_at_once : Stmt := top 56
abbrev N_laid_at_once : List Str := ["state", "hand", "found", "end", "one", "word", "cell", "number", "woken"]
theorem sc_laid_at_once : FnScope N_laid_at_once ["state", "hand"] (defScope s_laid_at_once) := ⟨rfl, rfl, rfl, by decide +kernel, rfl, by decide +kernel, by decide +kernel⟩
theorem b_laid_at_once {K : PySem.W.Frag} {f : Addr} {fd : FuncData} (F : Fun K "laid_at_once" "laid_at_once" s_laid_at_once f fd) : Binds K fd ["state", "hand"] [] := F.binds (ps := ["state", "hand"]) fun _ _ _ _ _ _ us hl => match us, hl with | [_, _], _ => rfl
abbrev s_stopped : Stmt := top 57
abbrev N_stopped : List Str := ["state", "hand", "laid", "end", "k", "later"]
theorem sc_stopped : FnScope N_stopped ["state", "hand"] (defScope s_stopped) := ⟨rfl, rfl, rfl, by decide +kernel, rfl, by decide +kernel, by decide +kernel⟩
theorem b_stopped {K : PySem.W.Frag} {f : Addr} {fd : FuncData} (F : Fun K "stopped" "stopped" s_stopped f fd) : Binds K fd ["state", "hand"] [] := F.binds (ps := ["state", "hand"]) fun _ _ _ _ _ _ us hl => match us, hl with | [_, _], _ => rfl
abbrev s_hand_of : Stmt := top 58
abbrev N_hand_of : List Str := ["thing"]
theorem sc_hand_of : FnScope N_hand_of ["thing"] (defScope s_hand_of) := ⟨rfl, rfl, rfl, by decide +kernel, rfl, by decide +kernel, by decide +kernel⟩
theorem b_hand_of {K : PySem.W.Frag} {f : Addr} {fd : FuncData} (F : Fun K "hand_of" "hand_of" s_hand_of f fd) : Binds K fd ["thing"] [] := F.binds (ps := ["thing"]) fun _ _ _ _ _ _ us hl => match us, hl with | [_], _ => rfl
abbrev s_run : Stmt := top 59
abbrev N_run : List Str := ["state", "schedule", "most", "thing", "log", "event"]
theorem sc_run : FnScope N_run ["state", "schedule", "most"] (defScope s_run) := ⟨rfl, rfl, rfl, by decide +kernel, rfl, by decide +kernel, by decide +kernel⟩
abbrev s_stays_of : Stmt := top 60
abbrev N_stays_of : List Str := ["cells", "hands", "found", "hand"]
theorem sc_stays_of : FnScope N_stays_of ["cells", "hands"] (defScope s_stays_of) := ⟨rfl, rfl, rfl, by decide +kernel, rfl, by decide +kernel, by decide +kernel⟩
theorem b_stays_of {K : PySem.W.Frag} {f : Addr} {fd : FuncData} (F : Fun K "stays_of" "stays_of" s_stays_of f fd) : Binds K fd ["cells", "hands"] [] := F.binds (ps := ["cells", "hands"]) fun _ _ _ _ _ _ us hl => match us, hl with | [_, _], _ => rfl
abbrev s_rounds : Stmt := top 61
abbrev N_rounds : List Str := ["cells", "hands", "pacts", "stays"]
theorem sc_rounds : FnScope N_rounds ["cells", "hands", "pacts"] (defScope s_rounds) := ⟨rfl, rfl, rfl, by decide +kernel, rfl, by decide +kernel, by decide +kernel⟩
abbrev s__law_tap : Stmt := top 63
abbrev N__law_tap : List Str := ["_law_script"]
theorem sc__law_tap : FnScope N__law_tap ["_law_script"] (defScope s__law_tap) := ⟨rfl, rfl, rfl, by decide +kernel, rfl, by decide +kernel, by decide +kernel⟩
theorem b__law_tap {K : PySem.W.Frag} {f : Addr} {fd : FuncData} (F : Fun K "_law_tap" "_law_tap" s__law_tap f fd) : Binds K fd ["_law_script"] [] := F.binds (ps := ["_law_script"]) fun _ _ _ _ _ _ us hl => match us, hl with | [_], _ => rfl
abbrev s__law_pick : Stmt := top 64
abbrev N__law_pick : List Str := ["_law_tap_here", "_law_many", "_law_stock", "_law_at", "_law_rest", "_law_turn", "_law_cell", "_law_mixed"]
theorem sc__law_pick : FnScope N__law_pick ["_law_tap_here", "_law_many"] (defScope s__law_pick) := ⟨rfl, rfl, rfl, by decide +kernel, rfl, by decide +kernel, by decide +kernel⟩
theorem b__law_pick {K : PySem.W.Frag} {f : Addr} {fd : FuncData} (F : Fun K "_law_pick" "_law_pick" s__law_pick f fd) : Binds K fd ["_law_tap_here", "_law_many"] [] := F.binds (ps := ["_law_tap_here", "_law_many"]) fun _ _ _ _ _ _ us hl => match us, hl with | [_, _], _ => rfl
abbrev s__law_number : Stmt := top 65
abbrev N__law_number : List Str := ["_law_tap_here"]
theorem sc__law_number : FnScope N__law_number ["_law_tap_here"] (defScope s__law_number) := ⟨rfl, rfl, rfl, by decide +kernel, rfl, by decide +kernel, by decide +kernel⟩
theorem b__law_number {K : PySem.W.Frag} {f : Addr} {fd : FuncData} (F : Fun K "_law_number" "_law_number" s__law_number f fd) : Binds K fd ["_law_tap_here"] [] := F.binds (ps := ["_law_tap_here"]) fun _ _ _ _ _ _ us hl => match us, hl with | [_], _ => rfl
abbrev s__law_amount : Stmt := top 66
abbrev N__law_amount : List Str := ["_law_tap_here", "_law_deep", "_law_way", "_law_one_here"]
theorem sc__law_amount : FnScope N__law_amount ["_law_tap_here", "_law_deep"] (defScope s__law_amount) := ⟨rfl, rfl, rfl, by decide +kernel, rfl, by decide +kernel, by decide +kernel⟩
theorem b__law_amount {K : PySem.W.Frag} {f : Addr} {fd : FuncData} (F : Fun K "_law_amount" "_law_amount" s__law_amount f fd) : Binds K fd ["_law_tap_here", "_law_deep"] [] := F.binds (ps := ["_law_tap_here", "_law_deep"]) fun _ _ _ _ _ _ us hl => match us, hl with | [_, _], _ => rfl
abbrev s__law_steps : Stmt := top 67
abbrev N__law_steps : List Str := ["_law_tap_here", "_law_stock", "_law_deep", "_law_most", "_law_found", "_law_k"]
theorem sc__law_steps : FnScope N__law_steps ["_law_tap_here", "_law_stock", "_law_deep", "_law_most"] (defScope s__law_steps) := ⟨rfl, rfl, rfl, by decide +kernel, rfl, by decide +kernel, by decide +kernel⟩
theorem b__law_steps {K : PySem.W.Frag} {f : Addr} {fd : FuncData} (F : Fun K "_law_steps" "_law_steps" s__law_steps f fd) : Binds K fd ["_law_tap_here", "_law_stock", "_law_deep", "_law_most"] [] := F.binds (ps := ["_law_tap_here", "_law_stock", "_law_deep", "_law_most"]) fun _ _ _ _ _ _ us hl => match us, hl with | [_, _, _, _], _ => rfl
abbrev s__law_one : Stmt := top 68
abbrev N__law_one : List Str := ["_law_tap_here", "_law_stock", "_law_deep", "_law_way", "_law_most", "_law_first", "_law_second"]
theorem sc__law_one : FnScope N__law_one ["_law_tap_here", "_law_stock", "_law_deep"] (defScope s__law_one) := ⟨rfl, rfl, rfl, by decide +kernel, rfl, by decide +kernel, by decide +kernel⟩
theorem b__law_one {K : PySem.W.Frag} {f : Addr} {fd : FuncData} (F : Fun K "_law_one" "_law_one" s__law_one f fd) : Binds K fd ["_law_tap_here", "_law_stock", "_law_deep"] [] := F.binds (ps := ["_law_tap_here", "_law_stock", "_law_deep"]) fun _ _ _ _ _ _ us hl => match us, hl with | [_, _, _], _ => rfl
abbrev s__law_pact : Stmt := top 69
abbrev N__law_pact : List Str := ["_law_tap_here", "_law_stock", "_law_one_here", "_law_other", "_law_way", "_law_waits", "_law_first"]
theorem sc__law_pact : FnScope N__law_pact ["_law_tap_here", "_law_stock"] (defScope s__law_pact) := ⟨rfl, rfl, rfl, by decide +kernel, rfl, by decide +kernel, by decide +kernel⟩
theorem b__law_pact {K : PySem.W.Frag} {f : Addr} {fd : FuncData} (F : Fun K "_law_pact" "_law_pact" s__law_pact f fd) : Binds K fd ["_law_tap_here", "_law_stock"] [] := F.binds (ps := ["_law_tap_here", "_law_stock"]) fun _ _ _ _ _ _ us hl => match us, hl with | [_, _], _ => rfl
abbrev s__law_rounds : Stmt := top 70
abbrev N__law_rounds : List Str := ["_law_m", "_law_crowd", "_law_tasks", "_law_stays", "_law_k"]
theorem sc__law_rounds : FnScope N__law_rounds ["_law_m", "_law_crowd", "_law_tasks"] (defScope s__law_rounds) := ⟨rfl, rfl, rfl, by decide +kernel, rfl, by decide +kernel, by decide +kernel⟩
theorem b__law_rounds {K : PySem.W.Frag} {f : Addr} {fd : FuncData} (F : Fun K "_law_rounds" "_law_rounds" s__law_rounds f fd) : Binds K fd ["_law_m", "_law_crowd", "_law_tasks"] [] := F.binds (ps := ["_law_m", "_law_crowd", "_law_tasks"]) fun _ _ _ _ _ _ us hl => match us, hl with | [_, _, _], _ => rfl
abbrev s__law_order : Stmt := top 71
abbrev N__law_order : List Str := ["_law_tap_here", "_law_crowd", "_law_left", "_law_found"]
theorem sc__law_order : FnScope N__law_order ["_law_tap_here", "_law_crowd"] (defScope s__law_order) := ⟨rfl, rfl, rfl, by decide +kernel, rfl, by decide +kernel, by decide +kernel⟩
theorem b__law_order {K : PySem.W.Frag} {f : Addr} {fd : FuncData} (F : Fun K "_law_order" "_law_order" s__law_order f fd) : Binds K fd ["_law_tap_here", "_law_crowd"] [] := F.binds (ps := ["_law_tap_here", "_law_crowd"]) fun _ _ _ _ _ _ us hl => match us, hl with | [_, _], _ => rfl
abbrev s__law_small : Stmt := top 72
abbrev N__law_small : List Str := ["_law_tap_here", "_law_many", "_law_stock", "_law_crew", "_law_k", "_law_at", "_law_form"]
theorem sc__law_small : FnScope N__law_small ["_law_tap_here"] (defScope s__law_small) := ⟨rfl, rfl, rfl, by decide +kernel, rfl, by decide +kernel, by decide +kernel⟩
theorem b__law_small {K : PySem.W.Frag} {f : Addr} {fd : FuncData} (F : Fun K "_law_small" "_law_small" s__law_small f fd) : Binds K fd ["_law_tap_here"] [] := F.binds (ps := ["_law_tap_here"]) fun _ _ _ _ _ _ us hl => match us, hl with | [_], _ => rfl
abbrev s_law : Stmt := top 73
abbrev N_law : List Str := ["_law_script", "_law_tap_here", "_law_stock", "_law_crew", "_law_ahead_now", "_law_state", "_law_log", "_law_tasks", "_law_m", "_law_crowd", "_law_most", "_law_many", "_law_hand", "_law_row", "_law_k", "_law_programs", "_law_cell", "_law_event"]
theorem sc_law : FnScope N_law ["_law_script"] (defScope s_law) := ⟨rfl, rfl, rfl, by decide +kernel, rfl, by decide +kernel, by decide +kernel⟩
theorem b_law {K : PySem.W.Frag} {f : Addr} {fd : FuncData} (F : Fun K "law" "law" s_law f fd) : Binds K fd ["_law_script"] [] := F.binds (ps := ["_law_script"]) fun _ _ _ _ _ _ us hl => match us, hl with | [_], _ => rfl
structure DefAt (K : PySem.W.Frag) (mg : Str → Option Value) (x : Str) (st : Stmt) where
  f : Addr
  fd : FuncData
  F : Fun K x x st f fd
  m : mg x = some (.ref f)
theorem DefAt.kp {K : PySem.W.Frag} {mg : Str → Option Value} {x : Str} {st : Stmt} (d : DefAt K mg x st) : PySem.W.keepIn K (.ref d.f) = true := d.F.kp
structure Txt (K : PySem.W.Frag) (w : World) (mg : Str → Option Value) where
  d_is_number : DefAt K mg "is_number" s_is_number
  d_need_hand : DefAt K mg "need_hand" s_need_hand
  d_row_new : DefAt K mg "row_new" s_row_new
  d_begun : DefAt K mg "begun" s_begun
  d_is_quiet : DefAt K mg "is_quiet" s_is_quiet
  d_with_row : DefAt K mg "with_row" s_with_row
  d_with_cell : DefAt K mg "with_cell" s_with_cell
  d_freed : DefAt K mg "freed" s_freed
  d_given_up : DefAt K mg "given_up" s_given_up
  d_done_with : DefAt K mg "done_with" s_done_with
  d_reckoned : DefAt K mg "reckoned" s_reckoned
  d_worth : DefAt K mg "worth" s_worth
  d_fresh : DefAt K mg "fresh" s_fresh
  d_weighed : DefAt K mg "weighed" s_weighed
  d_with_slot : DefAt K mg "with_slot" s_with_slot
  d_read_on : DefAt K mg "read_on" s_read_on
  d_write_on : DefAt K mg "write_on" s_write_on
  d_let_on : DefAt K mg "let_on" s_let_on
  d_tell_on : DefAt K mg "tell_on" s_tell_on
  d_if_on : DefAt K mg "if_on" s_if_on
  d_inner_on : DefAt K mg "inner_on" s_inner_on
  d_either_on : DefAt K mg "either_on" s_either_on
  d_leave_on : DefAt K mg "leave_on" s_leave_on
  d_walk_on : DefAt K mg "walk_on" s_walk_on
  d_goes_on : DefAt K mg "goes_on" s_goes_on
  d_pact_of : DefAt K mg "pact_of" s_pact_of
  d_gives : DefAt K mg "gives" s_gives
  d_rests : DefAt K mg "rests" s_rests
  d_begins : DefAt K mg "begins" s_begins
  d_reads_cell : DefAt K mg "reads_cell" s_reads_cell
  d_retries : DefAt K mg "retries" s_retries
  d_walks : DefAt K mg "walks" s_walks
  d_locks_next : DefAt K mg "locks_next" s_locks_next
  d_written_by : DefAt K mg "written_by" s_written_by
  d_sure_by : DefAt K mg "sure_by" s_sure_by
  d_locks : DefAt K mg "locks" s_locks
  d_checks : DefAt K mg "checks" s_checks
  d_woken_by : DefAt K mg "woken_by" s_woken_by
  d_backs : DefAt K mg "backs" s_backs
  d_step : DefAt K mg "step" s_step
  d_laid_at_once : DefAt K mg "laid_at_once" s_laid_at_once
  d_stopped : DefAt K mg "stopped" s_stopped
  d_hand_of : DefAt K mg "hand_of" s_hand_of
  d_run : DefAt K mg "run" s_run
  d_stays_of : DefAt K mg "stays_of" s_stays_of
  d_rounds : DefAt K mg "rounds" s_rounds
  d__law_tap : DefAt K mg "_law_tap" s__law_tap
  d__law_pick : DefAt K mg "_law_pick" s__law_pick
  d__law_number : DefAt K mg "_law_number" s__law_number
  d__law_amount : DefAt K mg "_law_amount" s__law_amount
  d__law_steps : DefAt K mg "_law_steps" s__law_steps
  d__law_one : DefAt K mg "_law_one" s__law_one
  d__law_pact : DefAt K mg "_law_pact" s__law_pact
  d__law_rounds : DefAt K mg "_law_rounds" s__law_rounds
  d__law_order : DefAt K mg "_law_order" s__law_order
  d__law_small : DefAt K mg "_law_small" s__law_small
  d_law : DefAt K mg "law" s_law
  z_len : mg "len" = none
  z_tuple : mg "tuple" = none
  z_dict : mg "dict" = none
  z_sorted : mg "sorted" = none
  z_all : mg "all" = none
  z_sum : mg "sum" = none
  z_list : mg "list" = none
  z_range : mg "range" = none
  z_isinstance : mg "isinstance" = none
  z_repr : mg "repr" = none
  z_int : mg "int" = none
  z_bool : mg "bool" = none
  a_STEPS : Addr
  g_STEPS : ∃ u, mg "STEPS" = some u ∧ RelV (.ref a_STEPS) u
  a_DEEDS : Addr
  g_DEEDS : ∃ u, mg "DEEDS" = some u ∧ RelV (.ref a_DEEDS) u
  a_RESTING : Addr
  g_RESTING : ∃ u, mg "RESTING" = some u ∧ RelV (.ref a_RESTING) u
  g_SURE : ∃ u, mg "SURE" = some u ∧ RelV (.str "backs") u
  g_ON : ∃ u, mg "ON" = some u ∧ RelV (.str "on") u
  kS_read : KDct K w a_STEPS "read" (.ref d_read_on.f)
  kS_write : KDct K w a_STEPS "write" (.ref d_write_on.f)
  kS_let : KDct K w a_STEPS "let" (.ref d_let_on.f)
  kS_tell : KDct K w a_STEPS "tell" (.ref d_tell_on.f)
  kS_if : KDct K w a_STEPS "if" (.ref d_if_on.f)
  kS_inner : KDct K w a_STEPS "inner" (.ref d_inner_on.f)
  kS_either : KDct K w a_STEPS "either" (.ref d_either_on.f)
  kS_out : KDct K w a_STEPS "out" (.ref d_leave_on.f)
  kS_retry : KDct K w a_STEPS "retry" (.ref d_leave_on.f)
  kD_new : KDct K w a_DEEDS "new" (.ref d_begins.f)
  kD_walks : KDct K w a_DEEDS "walks" (.ref d_walks.f)
  kD_locks : KDct K w a_DEEDS "locks" (.ref d_locks.f)
  kD_checks : KDct K w a_DEEDS "checks" (.ref d_checks.f)
  kD_backs : KDct K w a_DEEDS "backs" (.ref d_backs.f)
  kD_through : KDct K w a_DEEDS "through" (.ref d_rests.f)
  kD_sleeps : KDct K w a_DEEDS "sleeps" (.ref d_rests.f)
  rest : ∀ H : Hp, SqT K H a_RESTING [.str "through", .str "stopped", .str "sleeps"]
section
variable {X : Cx}
theorem pe_globE {x : Str} {v : V} {pos : Pos} (hg : Gl X x) (h : ∃ u, X.mg x = some u ∧ RelV v u) (hd : (x == ("__debug__" : Str)) = false := by decide) : PE X (.Name x pos) (tC v) := by
  obtain ⟨u, hm, r⟩ := h
  exact pe_glob hg hm r hd
/-- a local name that holds one of several defs -/
def tCallR (i : Nat) (S : Addr → Sp → Prop) (t : TA) : TE := fun σ H Q => ∃ f sp, σ[i]? = some (some (.ref f)) ∧ S f sp ∧ t σ H fun vs H1 => sp vs H1 Q (fun _ _ _ => False)
theorem pe_callR {k i : Nat} {x : Str} {p pos : Pos} {e : Expr} {es : List Expr} {t : TA} {S : Addr → Sp → Prop} (A : ∀ f sp, S f sp → Held X.prog X.w X.K X.mg X.base k f sp) (hr : Room k X.A) (hN : X.N[i]? = some x) (hv : Vis X.env.scope x) (ha : PA X (e :: es) t)
    (hdb : (x == ("__debug__" : Str)) = false := by decide) (hcd : (x == ("__classdict__" : Str)) = false := by decide)
    (he : starEach (e :: es) X.env = (false, eval e X.env) :: starEach es X.env := by rfl) (hpl : (backTo pos (starEach es X.env)).any (·.1) = false := by rfl) : PE X (.Call (.Name x p) (e :: es) [] pos) (tCallR i S t) := by
  constructor
  rintro pins s σ H Q I ⟨f, sp, at_, hS, ht⟩
  exact (pe_callA (S := fun g => if g = f then some sp else none) (fun g sp' e => by
    by_cases z : g = f
    · rw [z, if_pos rfl] at e; rw [z, ← Option.some.inj e]; exact A f sp hS
    · rw [if_neg z] at e; cases e) hr hN hv ha hdb hcd he hpl).run pins s σ H Q I ⟨f, sp, at_, if_pos rfl, ht⟩
end
section
variable {K : PySem.W.Frag} {Γ : Gm} {P : D → Prop} {ds : List D}
theorem evp_callR {i : Nat} {S : Addr → Sp → Prop} {t : TA} {f : Addr} {R : List D → (D → Prop) → Prop} (hi : Γ[i]? = some (some (.ref f))) (hS : S f (spD K R)) (h : EvA K t Γ ds) (hr : R ds P) : EvP K (tCallR i S t) Γ P := fun σ H sa Q q => by
  obtain ⟨v, e, a⟩ := sa.at_ i _ hi
  refine ⟨f, _, by rw [e, show v = .ref f from a], hS, h σ H sa _ fun vs H1 e1 a1 => ⟨ds, P, hr, a1, fun v H2 d p e2 a2 => q v H2 d p (e1.trans e2) a2⟩⟩
/-- in a tuple of the module -/
theorem rd_inK {a : Addr} {xs : List V} {x : V} {d1 : D} (hs : ∀ H, SqT K H a xs) (hx : Fl d1 = some x) (hf : flatV x = true) (hall : xs.all flatV = true) : RD K (rIn K false) d1 (.ref a) (.bl (inV x xs)) := fun u v H a1 a2 Q q => by
  refine ⟨a, xs, a2, .inr (hs H), by rw [Fl.at hx a1]; exact hf, hall, ?_⟩
  rw [Fl.at hx a1]
  exact q _ H (Same.refl H) rfl
theorem AtL.flat {H : Hp} : ∀ {ds : List D} {xs ys : List V}, ds.map Fl = xs.map some → AtL K H ds ys → ys = xs
  | [], [], ys, _, al => al
  | [], x :: xs, ys, hd, _ => by simp at hd
  | d :: ds, [], ys, hd, _ => by simp at hd
  | d :: ds, x :: xs, ys, hd, al => by
    obtain ⟨y, r, e, b1, b2⟩ := al
    simp only [List.map_cons, List.cons.injEq] at hd
    rw [e, Fl.at hd.1 b1, AtL.flat hd.2 b2]
/-- in a written tuple -/
theorem rd_inT {neg : Bool} {xs : List V} {x : V} {d1 : D} (hx : Fl d1 = some x) (hf : flatV x = true) (hd : ds.map Fl = xs.map some) (hall : xs.all flatV = true) : RD K (rIn K neg) d1 (.tup ds) (.bl (if neg then !inV x xs else inV x xs)) := fun u v H a1 a2 Q q => by
  obtain ⟨p, ys, e, hs, al⟩ := a2
  have hy : ys = xs := AtL.flat hd al
  subst hy
  refine ⟨p, ys, e, .inr (.inl hs), by rw [Fl.at hx a1]; exact hf, hall, ?_⟩
  rw [Fl.at hx a1]
  exact q _ H (Same.refl H) rfl
theorem rd_ixT' {n : Int} {d : D} (hn : 0 ≤ n) (h : ds[n.toNat]? = some d) : RD K (rIx K) (.tup ds) (.int n) d := rd_ixT (i := n.toNat) (by omega) h
theorem rd_ixP' {n : Int} {d : D} (hn : 0 ≤ n) (h : ds[n.toNat]? = some d) : RD K (rIx K) (.ptup ds) (.int n) d := fun x y H a1 a2 Q q => rd_ixT' hn h x y H (At.pt a1) a2 Q q
theorem rd_ixL' {n : Int} {d : D} (hn : 0 ≤ n) (h : ds[n.toNat]? = some d) : RD K (rIx K) (.lst ds) (.int n) d := rd_ixL (i := n.toNat) (by omega) h
theorem rd_catP {es : List D} (hl : ds.length + es.length ≤ sizeLine) : RD K (rCatA K) (.ptup ds) (.tup es) (.tup (ds ++ es)) := fun x y H a1 a2 Q q => rd_cat hl x y H (At.pt a1) a2 Q q
section
variable {nx : Gm → Prop} {d1 d2 d3 d4 d5 d6 d7 : D} {i1 i2 i3 i4 i5 i6 i7 j i : Nat}
theorem gd_un2 (h : nx ((Γ.set i1 (some d1)).set i2 (some d2))) : GD K (gTup K 2 (gCons (gName i1) (gCons (gName i2) gNil))) (.tup [d1, d2]) Γ nx := gd_tup rfl (gds_cons (gd_name (gds_cons (gd_name (gds_nil h)))))
theorem gd_un3 (h : nx (((Γ.set i1 (some d1)).set i2 (some d2)).set i3 (some d3))) : GD K (gTup K 3 (gCons (gName i1) (gCons (gName i2) (gCons (gName i3) gNil)))) (.tup [d1, d2, d3]) Γ nx := gd_tup rfl (gds_cons (gd_name (gds_cons (gd_name (gds_cons (gd_name (gds_nil h)))))))
theorem gd_un5 (h : nx (((((Γ.set i1 (some d1)).set i2 (some d2)).set i3 (some d3)).set i4 (some d4)).set i5 (some d5))) : GD K (gTup K 5 (gCons (gName i1) (gCons (gName i2) (gCons (gName i3) (gCons (gName i4) (gCons (gName i5) gNil)))))) (.tup [d1, d2, d3, d4, d5]) Γ nx :=
  gd_tup rfl (gds_cons (gd_name (gds_cons (gd_name (gds_cons (gd_name (gds_cons (gd_name (gds_cons (gd_name (gds_nil h)))))))))))
theorem gd_un7 (h : nx (((((((Γ.set i1 (some d1)).set i2 (some d2)).set i3 (some d3)).set i4 (some d4)).set i5 (some d5)).set i6 (some d6)).set i7 (some d7))) :
    GD K (gTup K 7 (gCons (gName i1) (gCons (gName i2) (gCons (gName i3) (gCons (gName i4) (gCons (gName i5) (gCons (gName i6) (gCons (gName i7) gNil)))))))) (.tup [d1, d2, d3, d4, d5, d6, d7]) Γ nx :=
  gd_tup rfl (gds_cons (gd_name (gds_cons (gd_name (gds_cons (gd_name (gds_cons (gd_name (gds_cons (gd_name (gds_cons (gd_name (gds_cons (gd_name (gds_nil h)))))))))))))))
/-- a comprehension over a tuple told by places -/
theorem ev_lcTi {tl te : TE} {tt : TT} {g : TG} {vs : List Nat} {n : Nat} {f : Nat → D} (out : Nat → Option D) (hl : Ev K tl Γ (.tup ((List.range n).map f))) (hz : n ≤ 100000) (hs : ∀ i, i < n → LcTurn K vs g tt te Γ (f i) (out i)) :
    Ev K (tLc (iTup K tl) g tt te vs) Γ (.lst ((List.range n).filterMap out)) := fun σ H sa Q q =>
  hl σ H sa _ fun x H1 e1 a1 => by
    obtain ⟨p, xs, ex, hq, al⟩ := a1
    have hlen := AtL.len al
    rw [List.length_map, List.length_range] at hlen
    have tk : ∀ i, i < n → (List.range n)[i]? = some i := fun i hi => List.getElem?_range hi
    have ft : ∀ i, i < n → ((List.range n).take (i + 1)).filterMap out = ((List.range n).take i).filterMap out ++ (out i).toList := fun i hi => by
      rw [List.take_add_one, tk i hi, List.filterMap_append]
      cases e : out i <;> simp [e, Option.toList]
    refine ⟨p, ex, ⟨xs, .inl hq⟩, fun D0 hD => lc_tup (K := K) (a := p) (xs := xs) (fun i H => Same H1 H ∧ ∃ acc, H D0 = some (.lst acc) ∧ AtL K H (((List.range n).take i).filterMap out) acc ∧ nlL (((List.range n).take i).filterMap out) = true)
      ⟨Same.new hD, [], L2.upd_same, by simp [AtL], by simp [nlL]⟩ (fun i H _ h => .inl (Same.rd h.1 hq)) ?_ ?_⟩
    · rintro i x H hx ⟨e, acc, h1, h2, h3⟩
      have hi : i < n := by have := (List.getElem?_eq_some_iff.mp hx).1; omega
      obtain ⟨d, hd, ad⟩ := AtL.back al hx
      rw [List.getElem?_map, tk i hi] at hd
      have hd : f i = d := Option.some.inj hd
      subst hd
      have hz' : acc.length ≤ 100000 := by
        rw [AtL.len h2]
        refine Nat.le_trans (List.length_filterMap_le _ _) ?_
        rw [List.length_take, List.length_range]; omega
      refine lc_step (sa.mono e1) hD e h1 h2 h3 hz' (At.mono e ad) (hs i hi) fun H' acc' e' f1 f2 f3 => ⟨e', acc', f1, ?_, ?_⟩
      · rw [ft i hi]; exact f2
      · rw [ft i hi]; exact f3
    · rintro H ⟨e, acc, h1, h2, h3⟩
      rw [hlen, List.take_of_length_le (by simp)] at h2
      exact q _ _ (e1.trans e) ⟨D0, acc, rfl, SqL.of h1, h2⟩
theorem ev_lcTm {tl te : TE} {tt : TT} {g : TG} {vs : List Nat} {n : Nat} {f : Nat → D} (o : Nat → D) (hl : Ev K tl Γ (.tup ((List.range n).map f))) (hz : n ≤ 100000) (hs : ∀ i, i < n → LcTurn K vs g tt te Γ (f i) (some (o i))) :
    Ev K (tLc (iTup K tl) g tt te vs) Γ (.lst ((List.range n).map o)) := (ev_lcTi (fun i => some (o i)) hl hz hs).eq (by
      rw [show (fun i => some (o i)) = some ∘ o from rfl, List.filterMap_eq_map])
/-- one that is kept -/
theorem lc_keep {te : TE} {g : TG} {vs : List Nat} {d y : D} (hy : nl y = true) (h : GW K vs g d (wipeG Γ vs) fun Γ' => Ev K te Γ' y) : LcTurn K vs g tYes te Γ d (some y) := fun v σ H Q sa a q =>
  h v σ H Q sa a fun Γ' σ' H' n e s w => q Γ' σ' H' ⟨true, eb_yes, fun _ => ⟨y, rfl, hy, n⟩, fun z => by cases z⟩ e s w
theorem gw_un3 {vs : List Nat} (h1 : i1 ∈ vs) (h2 : i2 ∈ vs) (h3 : i3 ∈ vs) (h : nx (((Γ.set i1 (some d1)).set i2 (some d2)).set i3 (some d3))) : GW K vs (gTup K 3 (gCons (gName i1) (gCons (gName i2) (gCons (gName i3) gNil)))) (.tup [d1, d2, d3]) Γ nx :=
  gw_tup rfl (gws_cons (gw_name h1 (gws_cons (gw_name h2 (gws_cons (gw_name h3 (gws_nil h)))))))
theorem gw_un2 {vs : List Nat} (h1 : i1 ∈ vs) (h2 : i2 ∈ vs) (h : nx ((Γ.set i1 (some d1)).set i2 (some d2))) : GW K vs (gTup K 2 (gCons (gName i1) (gCons (gName i2) gNil))) (.tup [d1, d2]) Γ nx :=
  gw_tup rfl (gws_cons (gw_name h1 (gws_cons (gw_name h2 (gws_nil h)))))
/-- o[n], n written -/
theorem ev_ix {te : TE} {n : Int} {d : D} (h : Ev K te Γ (.tup ds)) (hn : 0 ≤ n) (hd : ds[n.toNat]? = some d) : Ev K (tOp (rIx K) te (tC (.int n))) Γ d := ev_op h ev_int (rd_ixT' hn hd)
theorem ev_ixv {te : TE} {n : Nat} {d : D} (h : Ev K te Γ (.tup ds)) (hi : Γ[i]? = some (some (.int (n : Int)))) (hd : ds[n]? = some d) : Ev K (tOp (rIx K) te (tVar i)) Γ d := ev_op h (ev_var hi) (rd_ixT' (by omega) (by rw [Int.toNat_natCast]; exact hd))
theorem ev_ixl {te : TE} {n : Int} {d : D} (h : Ev K te Γ (.lst ds)) (hn : 0 ≤ n) (hd : ds[n.toNat]? = some d) : Ev K (tOp (rIx K) te (tC (.int n))) Γ d := ev_op h ev_int (rd_ixL' hn hd)
theorem ev_row {cw : Crew} {m : Nat} {st : K70.S} {h : Nat} (hj : Γ[j]? = some (some (stD cw m st))) (hi : Γ[i]? = some (some (.int (h : Int)))) (hh : h < cw.length) : Ev K (tOp (rIx K) (tOp (rIx K) (tVar j) (tC (.int 4))) (tVar i)) Γ (rowD (st.rows h)) :=
  ev_ixv (ev_ix (ev_var hj) (by decide) rfl) hi (rowsL_get hh)
theorem ev_hnd {cw : Crew} {m : Nat} {st : K70.S} {h : Nat} (hj : Γ[j]? = some (some (stD cw m st))) (hi : Γ[i]? = some (some (.int (h : Int)))) (hh : h < cw.length) : Ev K (tOp (rIx K) (tOp (rIx K) (tVar j) (tC (.int 0))) (tVar i)) Γ (.tup ((cw.getD h []).map pgD)) :=
  ev_ixv (ev_ix (ev_var hj) (by decide) rfl) hi (handsL_get hh)
theorem ev_cell {cw : Crew} {m : Nat} {st : K70.S} {c : Nat} (hj : Γ[j]? = some (some (stD cw m st))) (hi : Γ[i]? = some (some (.int (c : Int)))) (hc : c < m) : Ev K (tOp (rIx K) (tOp (rIx K) (tVar j) (tC (.int 3))) (tVar i)) Γ (cellD (st.cells c)) :=
  ev_ixv (ev_ix (ev_var hj) (by decide) rfl) hi (cellsL_get hc)
theorem ev_isEqS {te tf : TE} {x y : Str} (h1 : Ev K te Γ (.str x)) (h2 : Ev K tf Γ (.str y)) : EvB K (tTest (tOp rEq te tf)) Γ (decide (x = y)) := (eb_test (ev_op h1 h2 (rd_eq rfl rfl rfl))).eq (by simp)
end
end
end Wk
set_option Elab.async false
set_option linter.all false
set_option maxRecDepth 100000
set_option maxHeartbeats 2000000
/-! states: rows, cells, giving up -/
namespace Wk
open PySem PySem.Spec PyProof.Rows L2
local macro_rules | `(tactic| walk_at "ev") => `(tactic| first
  | exact ev_var rfl | exact ev_int | exact ev_str | exact ev_non | exact ev_bl | exact ev_pt0 | exact ev_ref
  | (refine ev_tup ?_ (sz5 (Nat.le_of_ble_eq_true rfl)); walk_at "eva")
  | (refine ev_op (d1 := .tup _) (r := rIx _) ?_ ?_ (rd_ixT' ?_ ?_); walk_at "ev"; walk_at "ev"; (first | decide | omega); (first | rfl | assumption))
  | (refine ev_op ?_ ?_ rd_int; walk_at "ev"; walk_at "ev")
  | (refine ev_op ?_ ?_ rd_bl; walk_at "ev"; walk_at "ev")
  | (refine ev_cb ?_ rc_lenT; walk_at "eva")
  | (refine ev_cb ?_ rc_lenL; walk_at "eva")
  | assumption)
local macro_rules | `(tactic| walk_at "eva") => `(tactic| first | exact eva_nil | (refine eva_cons ?_ ?_; walk_at "ev"; walk_at "eva"))
section
variable {P : Program} {w : World} {K : PySem.W.Frag} {mg : Str → Option Value} {base : Heap}
def R_row_new (ds : List D) (Q : D → Prop) : Prop := ∃ (ps : List D) (k : Nat) (tk : Option Int), ds = [.tup ps, .int (k : Int), optI tk] ∧ Q = fun d => d = rowD (K70.rowNew ps.length k tk)
theorem ok_row_new (T : Txt K w mg) : FnOk P w K mg base CX0 1 T.d_row_new.f T.d_row_new.fd ["programs", "k", "ticket"] (spD K R_row_new) := by
  refine fn_data T.d_row_new.F sc_row_new (fun ds Q h => by obtain ⟨_, _, _, rfl, _⟩ := h; rfl) fun cdv A outer s H E hr => ?_
  have hu := hu_of hr
  refine ⟨_, (pss_cons (ps_if (pt_cmpR op_eq (pv 1) (pe_callB call_len_seq (by rfl) T.z_len PySem.boot_len (pa_cons (pv 0) pa_nil)) (nomark _)) (pss_one (ps_ret (pe_tup (pa_cons (pv 1) (pa_cons pe_str (pa_cons pe_non (pa_cons pe_non (pa_cons pe_non (pa_cons pe_pt0 (pa_cons pe_int pa_nil)))))))))) pss_nil)
    (pss_one (ps_ret (pe_tup (pa_cons (pv 1) (pa_cons pe_str (pa_cons (pv 2) (pa_cons pe_non (pa_cons pe_non (pa_cons pe_pt0 (pa_cons pe_int pa_nil))))))))))), fun ds Q h => ?_⟩
  obtain ⟨ps, k, tk, rfl, rfl⟩ := h
  refine q_seq (q_if (b := decide ((V.int (k : Int)) = V.int (ps.length : Int))) (eb_test (ev_op (d1 := .int (k : Int)) (d2 := .int (ps.length : Int)) ?_ ?_ (rd_eq rfl rfl rfl))) (fun c => ?_) fun c => ?_)
  · walk_at "ev"
  · walk_at "ev"
  · refine q_retD (d := .tup [.int (k : Int), .str "through", .non, .non, .non, .ptup [], .int 0]) ?_ ?_
    · walk_at "ev"
    · have : (k : Int) = (ps.length : Int) := V.int.inj (of_decide_eq_true c)
      unfold K70.rowNew
      rw [if_pos (by omega)]
      rfl
  · refine q_next (q_retD (d := .tup [.int (k : Int), .str "new", optI tk, .non, .non, .ptup [], .int 0]) ?_ ?_)
    · walk_at "ev"
    · have : ¬ V.int (k : Int) = V.int (ps.length : Int) := of_decide_eq_false c
      unfold K70.rowNew
      rw [if_neg (fun z => this (by rw [z]))]
      rfl
structure Sz (cw : Crew) (m : Nat) : Prop where
  h : cw.length ≤ 1000
  m : m ≤ 1000
def R_with_row (ds : List D) (Q : D → Prop) : Prop := ∃ (cw : Crew) (m : Nat) (s : K70.S) (h : Nat) (r : K70.Row), ds = [stD cw m s, .int (h : Int), rowD r] ∧ h < cw.length ∧ Sz cw m ∧ Q = fun d => d = stD cw m { s with rows := K70.upd s.rows h r }
theorem ok_with_row (T : Txt K w mg) : FnOk P w K mg base CX0 1 T.d_with_row.f T.d_with_row.fd ["state", "hand", "row"] (spD K R_with_row) := by
  refine fn_data T.d_with_row.F sc_with_row (fun ds Q h => by obtain ⟨_, _, _, _, _, rfl, _⟩ := h; rfl) fun cdv A outer s H E hr => ?_
  refine ⟨_, (pss_cons (ps_asg (pv 0) (pg_tup rfl (pgs_cons (pg_name (i := 3) sc_with_row.nd rfl (Or.inl rfl)) (pgs_cons (pg_name (i := 4) sc_with_row.nd rfl (Or.inl rfl)) (pgs_cons (pg_name (i := 5) sc_with_row.nd rfl (Or.inl rfl)) (pgs_cons (pg_name (i := 6) sc_with_row.nd rfl (Or.inl rfl)) (pgs_cons (pg_name (i := 7) sc_with_row.nd rfl (Or.inl rfl)) pgs_nil)))))))
    (pss_one (ps_ret (pe_tup (pa_cons (pv 3) (pa_cons (pv 4) (pa_cons (pv 5) (pa_cons (pv 6) (pa_cons (pe_op op_catA (pe_op op_catA (pe_slice sl_tupA (pv 7) po_none (po_some (pv 1))) (pe_tup (pa_cons (pv 2) pa_nil))) (pe_slice sl_tupA (pv 7) (po_some (pe_op op_add (pv 1) pe_int)) po_none)) pa_nil))))))))), fun ds Q h => ?_⟩
  obtain ⟨cw, m, st, h, r, rfl, hh, sz, rfl⟩ := h
  have szh := sz.h
  refine q_seq (q_asg (d := stD cw m st) (ev_var rfl) (gd_un5 ?_))
  refine q_retD (d := .tup [.tup (handsL cw), .int st.clock, .int st.tickets, .tup (cellsL m st.cells), .tup ((rowsL cw.length st.rows).take h ++ [rowD r] ++ (rowsL cw.length st.rows).drop (h + 1))]) ?_ ?_
  · refine ev_tup (eva_cons (ev_var rfl) (eva_cons (ev_var rfl) (eva_cons (ev_var rfl) (eva_cons (ev_var rfl) (eva_cons ?_ eva_nil))))) (sz5 (Nat.le_of_ble_eq_true rfl))
    refine ev_op (d1 := .tup ((rowsL cw.length st.rows).take h ++ [rowD r])) (d2 := .tup ((rowsL cw.length st.rows).drop (h + 1))) (ev_op (d1 := .tup ((rowsL cw.length st.rows).take h)) (d2 := .tup [rowD r]) ?_ ?_ (rd_cat ?_)) ?_ (rd_cat ?_)
    · exact (ev_slT (ds := rowsL cw.length st.rows) (ev_var rfl) evo_none (evo_some (i := (h : Int)) (ev_var rfl))).eq (by rw [cut_to (by rw [rowsL_len]; omega)])
    · walk_at "ev"
    · rw [List.length_take, rowsL_len]; exact sz5 (by simp; omega)
    · refine (ev_slT (ds := rowsL cw.length st.rows) (ev_var rfl) (evo_some (i := ((h + 1 : Nat) : Int)) (ev_op (ev_var rfl) ev_int rd_int)) evo_none).eq (by rw [cut_from (by rw [rowsL_len]; omega)])
    · rw [List.length_append, List.length_take, List.length_drop, rowsL_len]; exact sz5 (by simp; omega)
  · show D.tup _ = D.tup _
    unfold rowsL
    rw [upd_list hh]
def R_with_cell (ds : List D) (Q : D → Prop) : Prop := ∃ (cw : Crew) (m : Nat) (s : K70.S) (c : Nat) (cl : K70.Cell), ds = [stD cw m s, .int (c : Int), cellD cl] ∧ c < m ∧ Sz cw m ∧ Q = fun d => d = stD cw m { s with cells := K70.upd s.cells c cl }
theorem ok_with_cell (T : Txt K w mg) : FnOk P w K mg base CX0 1 T.d_with_cell.f T.d_with_cell.fd ["state", "cell", "held"] (spD K R_with_cell) := by
  refine fn_data T.d_with_cell.F sc_with_cell (fun ds Q h => by obtain ⟨_, _, _, _, _, rfl, _⟩ := h; rfl) fun cdv A outer s H E hr => ?_
  refine ⟨_, (pss_cons (ps_asg (pv 0) (pg_tup rfl (pgs_cons (pg_name (i := 3) sc_with_cell.nd rfl (Or.inl rfl)) (pgs_cons (pg_name (i := 4) sc_with_cell.nd rfl (Or.inl rfl)) (pgs_cons (pg_name (i := 5) sc_with_cell.nd rfl (Or.inl rfl)) (pgs_cons (pg_name (i := 6) sc_with_cell.nd rfl (Or.inl rfl)) (pgs_cons (pg_name (i := 7) sc_with_cell.nd rfl (Or.inl rfl)) pgs_nil)))))))
    (pss_one (ps_ret (pe_tup (pa_cons (pv 3) (pa_cons (pv 4) (pa_cons (pv 5) (pa_cons (pe_op op_catA (pe_op op_catA (pe_slice sl_tupA (pv 6) po_none (po_some (pv 1))) (pe_tup (pa_cons (pv 2) pa_nil))) (pe_slice sl_tupA (pv 6) (po_some (pe_op op_add (pv 1) pe_int)) po_none)) (pa_cons (pv 7) pa_nil))))))))), fun ds Q h => ?_⟩
  obtain ⟨cw, m, st, h, r, rfl, hh, sz, rfl⟩ := h
  have szm := sz.m
  refine q_seq (q_asg (d := stD cw m st) (ev_var rfl) (gd_un5 ?_))
  refine q_retD (d := .tup [.tup (handsL cw), .int st.clock, .int st.tickets, .tup ((cellsL m st.cells).take h ++ [cellD r] ++ (cellsL m st.cells).drop (h + 1)), .tup (rowsL cw.length st.rows)]) ?_ ?_
  · refine ev_tup (eva_cons (ev_var rfl) (eva_cons (ev_var rfl) (eva_cons (ev_var rfl) (eva_cons ?_ (eva_cons (ev_var rfl) eva_nil))))) (sz5 (Nat.le_of_ble_eq_true rfl))
    refine ev_op (d1 := .tup ((cellsL m st.cells).take h ++ [cellD r])) (d2 := .tup ((cellsL m st.cells).drop (h + 1))) (ev_op (d1 := .tup ((cellsL m st.cells).take h)) (d2 := .tup [cellD r]) ?_ ?_ (rd_cat ?_)) ?_ (rd_cat ?_)
    · exact (ev_slT (ds := cellsL m st.cells) (ev_var rfl) evo_none (evo_some (i := (h : Int)) (ev_var rfl))).eq (by rw [cut_to (by rw [cellsL_len]; omega)])
    · walk_at "ev"
    · rw [List.length_take, cellsL_len]; exact sz5 (by simp; omega)
    · refine (ev_slT (ds := cellsL m st.cells) (ev_var rfl) (evo_some (i := ((h + 1 : Nat) : Int)) (ev_op (ev_var rfl) ev_int rd_int)) evo_none).eq (by rw [cut_from (by rw [cellsL_len]; omega)])
    · rw [List.length_append, List.length_take, List.length_drop, cellsL_len]; exact sz5 (by simp; omega)
  · show D.tup _ = D.tup _
    unfold cellsL
    rw [upd_list hh]
def R_freed (ds : List D) (Q : D → Prop) : Prop := ∃ (cw : Crew) (m : Nat) (s : K70.S) (h : Nat), ds = [stD cw m s, .int (h : Int)] ∧ Sz cw m ∧ Q = fun d => d = stD cw m { s with cells := fun c => K70.free h (s.cells c) }
theorem free_holderD (h : Nat) (c : K70.Cell) : optN (K70.free h c).holder = if c.holder = some h then .non else optN c.holder := by
  unfold K70.free
  split <;> rfl
theorem ok_freed (T : Txt K w mg) : FnOk P w K mg base CX0 1 T.d_freed.f T.d_freed.fd ["state", "hand"] (spD K R_freed) := by
  refine fn_data T.d_freed.F sc_freed (fun ds Q h => by obtain ⟨_, _, _, _, rfl, _⟩ := h; rfl) fun cdv A outer s H E hr => ?_
  refine ⟨_, (pss_cons (ps_asg (pv 0) (pg_tup rfl (pgs_cons (pg_name (i := 2) sc_freed.nd rfl (Or.inl rfl)) (pgs_cons (pg_name (i := 3) sc_freed.nd rfl (Or.inl rfl)) (pgs_cons (pg_name (i := 4) sc_freed.nd rfl (Or.inl rfl)) (pgs_cons (pg_name (i := 5) sc_freed.nd rfl (Or.inl rfl)) (pgs_cons (pg_name (i := 6) sc_freed.nd rfl (Or.inl rfl)) pgs_nil)))))))
    (pss_cons (ps_setLc (i := 7) (own := [("number", 8), ("stamp", 9), ("holder", 10)]) (g := (gTup K 3 (gCons (gName 8) (gCons (gName 9) (gCons (gName 10) gNil))))) (tt := tYes) (te := (tTup (tCons (tVar 8) (tCons (tVar 9) (tCons (tIf (tTest (tOp rEq (tVar 10) (tVar 1))) (tC .non) (tVar 10)) tNil))))) rfl sc_freed.nd rfl rfl (sw_true rfl rfl rfl (by decide +kernel)) (pi_tup (pv 5)) (blkOk_by (N := N_freed) (sc := defScope s_freed) (by decide +kernel)) (fun _ _ _ _ _ => (pg_tup rfl (pgs_cons (pg_name (i := 8) sc_freed.nd rfl (Or.inl rfl) (.inr rfl)) (pgs_cons (pg_name (i := 9) sc_freed.nd rfl (Or.inl rfl) (.inr rfl)) (pgs_cons (pg_name (i := 10) sc_freed.nd rfl (Or.inl rfl) (.inr rfl)) pgs_nil))))) (fun _ _ _ _ _ => pts_nil) (fun _ _ _ _ _ => (pe_tup (pa_cons (pv 8) (pa_cons (pv 9) (pa_cons (pe_ifExp (pt_cmpR op_eq (pv 10) (pv 1) (nomark _)) pe_non (pv 10)) pa_nil))))))
    (pss_one (ps_ret (pe_tup (pa_cons (pv 2) (pa_cons (pv 3) (pa_cons (pv 4) (pa_cons (pe_callTy call_tuple_of (by rfl) T.z_tuple (by decide +kernel) (pa_cons (pv 7) pa_nil)) (pa_cons (pv 6) pa_nil)))))))))), fun ds Q h => ?_⟩
  obtain ⟨cw, m, st, h, rfl, sz, rfl⟩ := h
  have szm := sz.m
  refine q_seq (q_asg (d := stD cw m st) (ev_var rfl) (gd_un5 ?_))
  refine q_seq (q_asg (d := .lst ((List.range m).map fun c => cellD (K70.free h (st.cells c)))) ?_ (gd_name ?_))
  · refine ev_lcTm (f := fun c => cellD (st.cells c)) (fun c => cellD (K70.free h (st.cells c))) (ev_var rfl) (by omega) fun c hc => lc_keep (by unfold cellD; cases (K70.free h (st.cells c)).holder <;> rfl) (gw_un3 (by decide) (by decide) (by decide) ?_)
    refine ev_tup (eva_cons (d := .int (K70.free h (st.cells c)).num) ((ev_var rfl).eq (by rw [K70.free_num])) (eva_cons (d := .int (K70.free h (st.cells c)).stamp) ((ev_var rfl).eq (by rw [K70.free_stamp])) (eva_cons ?_ eva_nil))) (sz5 (Nat.le_of_ble_eq_true rfl))
    rw [free_holderD]
    cases e : (st.cells c).holder with
    | none => exact ev_if (b := false) ((eb_test (ev_op (d1 := .non) (d2 := .int (h : Int)) (ev_var rfl) (ev_var rfl) (rd_eq rfl rfl rfl))).eq (decide_eq_false fun z => nomatch z)) (fun z => by cases z) (fun _ => ev_var rfl)
    | some o =>
      refine ev_if (eb_test (ev_op (d1 := .int (o : Int)) (d2 := .int (h : Int)) (ev_var rfl) (ev_var rfl) (rd_eq rfl rfl rfl))) (fun z => ?_) (fun z => ?_)
      · have z := V.int.inj (of_decide_eq_true z)
        rw [if_pos (by congr 1; omega)]; exact ev_non
      · have z : ¬ V.int (o : Int) = V.int (h : Int) := of_decide_eq_false z
        rw [if_neg (fun y => z (by rw [Option.some.inj y]))]; exact ev_var rfl
  · refine q_retD (d := stD cw m { st with cells := fun c => K70.free h (st.cells c) }) ?_ rfl
    exact ev_tup (eva_cons (ev_var rfl) (eva_cons (ev_var rfl) (eva_cons (ev_var rfl) (eva_cons (ev_cb (eva_cons (ev_var rfl) eva_nil) rc_tuple) (eva_cons (ev_var rfl) eva_nil))))) (sz5 (Nat.le_of_ble_eq_true rfl))
def R_given_up (ds : List D) (Q : D → Prop) : Prop := ∃ (cw : Crew) (m : Nat) (s : K70.S) (h : Nat), ds = [stD cw m s, .int (h : Int)] ∧ h < cw.length ∧ Sz cw m ∧ Q = fun d => d = stD cw m (K70.giveUp (crewP cw m) s h)
theorem ok_given_up (T : Txt K w mg) : FnOk P w K mg base CX0 2 T.d_given_up.f T.d_given_up.fd ["state", "hand"] (spD K R_given_up) := by
  have G_with_row := ok_with_row (P := P) (base := base) T
  have G_freed := ok_freed (P := P) (base := base) T
  have G_row_new := ok_row_new (P := P) (base := base) T
  refine fn_data T.d_given_up.F sc_given_up (fun ds Q h => by obtain ⟨_, _, _, _, rfl, _⟩ := h; rfl) fun cdv A outer s H E hr => ?_
  refine ⟨_, (pss_cons (ps_asg (pe_ix ix_seq (pe_ix ix_seq (pv 0) pe_int (fun _ _ => rfl)) (pv 1) (fun _ _ => rfl)) (pg_tup rfl (pgs_cons (pg_name (i := 2) sc_given_up.nd rfl (Or.inl rfl)) (pgs_cons (pg_name (i := 3) sc_given_up.nd rfl (Or.inl rfl)) (pgs_cons (pg_name (i := 4) sc_given_up.nd rfl (Or.inl rfl)) (pgs_cons (pg_name (i := 5) sc_given_up.nd rfl (Or.inl rfl)) (pgs_cons (pg_name (i := 6) sc_given_up.nd rfl (Or.inl rfl)) (pgs_cons (pg_name (i := 7) sc_given_up.nd rfl (Or.inl rfl)) (pgs_cons (pg_name (i := 8) sc_given_up.nd rfl (Or.inl rfl)) pgs_nil)))))))))
    (pss_one (ps_ret (pe_call G_with_row (hr.mono (by first | decide | omega)) rfl T.d_with_row.m T.d_with_row.kp (b_with_row T.d_with_row.F) .nil pass0 (pa_cons (pe_call G_freed (hr.mono (by first | decide | omega)) rfl T.d_freed.m T.d_freed.kp (b_freed T.d_freed.F) .nil pass0 (pa_cons (pv 0) (pa_cons (pv 1) pa_nil))) (pa_cons (pv 1) (pa_cons (pe_call G_row_new (hr.mono (by first | decide | omega)) rfl T.d_row_new.m T.d_row_new.kp (b_row_new T.d_row_new.F) .nil pass0 (pa_cons (pe_ix ix_seq (pe_ix ix_seq (pv 0) pe_int (fun _ _ => rfl)) (pv 1) (fun _ _ => rfl)) (pa_cons (pv 2) (pa_cons (pv 4) pa_nil)))) pa_nil))))))), fun ds Q h => ?_⟩
  obtain ⟨cw, m, st, h, rfl, hh, sz, rfl⟩ := h
  refine q_seq (q_asg (d := rowD (st.rows h)) (ev_row rfl rfl hh) (gd_un7 ?_))
  refine q_retD (d := stD cw m (K70.giveUp (crewP cw m) st h)) ?_ rfl
  refine ev_call (eva_cons (d := stD cw m { st with cells := fun c => K70.free h (st.cells c) }) (ev_call (eva_cons (ev_var rfl) (eva_cons (ev_var rfl) eva_nil)) ⟨cw, m, st, h, rfl, sz, rfl⟩ fun _ e => e) (eva_cons (ev_var rfl)
    (eva_cons (d := rowD (K70.rowNew ((cw.getD h []).map pgD).length (st.rows h).k (st.rows h).tk)) (ev_call (eva_cons (ev_hnd rfl rfl hh) (eva_cons (ev_var rfl) (eva_cons (ev_var rfl) eva_nil))) ⟨_, _, _, rfl, rfl⟩ fun _ e => e) eva_nil))) ⟨cw, m, _, h, _, rfl, hh, sz, rfl⟩ fun x e => ?_
  rw [e, List.length_map]
  rfl
def R_done_with (ds : List D) (Q : D → Prop) : Prop := ∃ (cw : Crew) (m : Nat) (s : K70.S) (h : Nat), ds = [stD cw m s, .int (h : Int)] ∧ h < cw.length ∧ Sz cw m ∧ Q = fun d => d = stD cw m (K70.doneWith (crewP cw m) s h)
theorem ok_done_with (T : Txt K w mg) : FnOk P w K mg base CX0 2 T.d_done_with.f T.d_done_with.fd ["state", "hand"] (spD K R_done_with) := by
  have G_with_row := ok_with_row (P := P) (base := base) T
  have G_row_new := ok_row_new (P := P) (base := base) T
  refine fn_data T.d_done_with.F sc_done_with (fun ds Q h => by obtain ⟨_, _, _, _, rfl, _⟩ := h; rfl) fun cdv A outer s H E hr => ?_
  refine ⟨_, (pss_one (ps_ret (pe_call G_with_row (hr.mono (by first | decide | omega)) rfl T.d_with_row.m T.d_with_row.kp (b_with_row T.d_with_row.F) .nil pass0 (pa_cons (pv 0) (pa_cons (pv 1) (pa_cons (pe_call G_row_new (hr.mono (by first | decide | omega)) rfl T.d_row_new.m T.d_row_new.kp (b_row_new T.d_row_new.F) .nil pass0 (pa_cons (pe_ix ix_seq (pe_ix ix_seq (pv 0) pe_int (fun _ _ => rfl)) (pv 1) (fun _ _ => rfl)) (pa_cons (pe_op op_add (pe_ix ix_seq (pe_ix ix_seq (pe_ix ix_seq (pv 0) pe_int (fun _ _ => rfl)) (pv 1) (fun _ _ => rfl)) pe_int (fun _ _ => rfl)) pe_int) (pa_cons pe_non pa_nil)))) pa_nil)))))), fun ds Q h => ?_⟩
  obtain ⟨cw, m, st, h, rfl, hh, sz, rfl⟩ := h
  refine q_retD (d := stD cw m (K70.doneWith (crewP cw m) st h)) ?_ rfl
  refine ev_call (eva_cons (ev_var rfl) (eva_cons (ev_var rfl)
    (eva_cons (d := rowD (K70.rowNew ((cw.getD h []).map pgD).length ((st.rows h).k + 1) none)) (ev_call (eva_cons (ev_hnd rfl rfl hh) (eva_cons (d := .int (((st.rows h).k + 1 : Nat) : Int)) ?_ (eva_cons (d := optI none) ev_non eva_nil))) ⟨_, _, _, rfl, rfl⟩ fun _ e => e) eva_nil))) ⟨cw, m, _, h, _, rfl, hh, sz, rfl⟩ fun x e => ?_
  · exact ev_op (d1 := .int ((st.rows h).k : Int)) (d2 := .int 1) (ev_ix (ev_row rfl rfl hh) (by decide) rfl) ev_int rd_int
  · rw [e, List.length_map]
    rfl
def R_pact_of (ds : List D) (Q : D → Prop) : Prop := ∃ (cw : Crew) (m : Nat) (s : K70.S) (h : Nat), ds = [stD cw m s, .int (h : Int)] ∧ h < cw.length ∧ (s.rows h).k < (cw.getD h []).length ∧ Q = fun d => d = pgD (prog cw h (s.rows h).k)
theorem ok_pact_of (T : Txt K w mg) : FnOk P w K mg base CX0 1 T.d_pact_of.f T.d_pact_of.fd ["state", "hand"] (spD K R_pact_of) := by
  refine fn_data T.d_pact_of.F sc_pact_of (fun ds Q h => by obtain ⟨_, _, _, _, rfl, _⟩ := h; rfl) fun cdv A outer s H E hr => ?_
  refine ⟨_, (pss_one (ps_ret (pe_ix ix_seq (pe_ix ix_seq (pe_ix ix_seq (pv 0) pe_int (fun _ _ => rfl)) (pv 1) (fun _ _ => rfl)) (pe_ix ix_seq (pe_ix ix_seq (pe_ix ix_seq (pv 0) pe_int (fun _ _ => rfl)) (pv 1) (fun _ _ => rfl)) pe_int (fun _ _ => rfl)) (fun _ _ => rfl)))), fun ds Q h => ?_⟩
  obtain ⟨cw, m, st, h, rfl, hh, hk, rfl⟩ := h
  refine q_retD (d := pgD (prog cw h (st.rows h).k)) ?_ rfl
  refine ev_op (d1 := .tup ((cw.getD h []).map pgD)) (d2 := .int ((st.rows h).k : Int)) ?_ ?_ (rd_ixT' (by omega) ?_)
  · exact ev_hnd rfl rfl hh
  · exact ev_ix (ev_row rfl rfl hh) (by decide) rfl
  · unfold prog
    rw [List.getElem?_map, Int.toNat_natCast, List.getD_eq_getElem?_getD (l := cw.getD h []), List.getElem?_eq_getElem hk]
    rfl
end
end Wk
set_option Elab.async false
set_option linter.all false
set_option maxRecDepth 100000
set_option maxHeartbeats 2000000
/-! sums and walks -/
namespace Wk
open PySem PySem.Spec PyProof.Rows L2 SrtO
/-! ### plain -/
theorem valV_look {ps : Ks} {k : Key} : valV (kvI ps) k = (look ps k).map V.int := by
  unfold valV look kvI
  rw [List.find?_map, Option.map_map, Option.map_map]
  rfl
theorem look_iff {k : Key} {n : Int} : ∀ {ps : Ks}, (ps.map (·.1)).Nodup → (look ps k = some n ↔ (k, n) ∈ ps)
  | [], _ => by simp [look]
  | q :: ps, h => by
    rw [List.map_cons, List.nodup_cons] at h
    have ih := look_iff (k := k) (n := n) h.2
    unfold look at ih ⊢
    by_cases e : q.1 = k
    · rw [List.find?_cons_of_pos (by simpa using e)]
      constructor
      · intro z
        have : q.2 = n := by simpa using z
        rw [← this, ← e]; exact List.mem_cons_self
      · intro z
        rcases List.mem_cons.mp z with z | z
        · rw [← z]; rfl
        · exact (h.1 (by rw [e]; exact List.mem_map.mpr ⟨_, z, rfl⟩)).elim
    · rw [List.find?_cons_of_neg (by simpa using e), ih]
      constructor
      · exact List.mem_cons_of_mem _
      · intro z
        rcases List.mem_cons.mp z with z | z
        · exact (e (by rw [← z])).elim
        · exact z
theorem look_perm {ps ps' : Ks} (p : ps'.Perm ps) (h : (ps.map (·.1)).Nodup) (k : Key) : look ps' k = look ps k := by
  have h' : (ps'.map (·.1)).Nodup := (p.map (·.1)).nodup_iff.mpr h
  refine Option.ext fun n => ?_
  rw [look_iff h', look_iff h]
  exact p.mem_iff
theorem lookS_perm {ps ps' : Ks} (p : ps'.Perm ps) (h : (ps.map (·.1)).Nodup) : lookS ps' = lookS ps := by
  funext s
  unfold lookS
  rw [look_perm p h]
def Str2 (a : Ks) : Prop := a.Pairwise fun x y => kr x.1 < kr y.1
theorem str2_uniq : ∀ {a b : Ks}, a.Perm b → Str2 a → Str2 b → a = b
  | [], b, p, _, _ => (List.nil_perm.mp p).symm
  | x :: a, [], p, _, _ => (List.perm_nil.mp p)
  | x :: a, y :: b, p, h1, h2 => by
    have h1' := List.pairwise_cons.mp h1
    have h2' := List.pairwise_cons.mp h2
    have e : x = y := by
      rcases List.mem_cons.mp (p.mem_iff.mp List.mem_cons_self) with e | e
      · exact e
      · rcases List.mem_cons.mp (p.mem_iff.mpr List.mem_cons_self) with e' | e'
        · exact e'.symm
        · have := h1'.1 _ e'
          have := h2'.1 _ e
          omega
    subst e
    rw [str2_uniq (List.Perm.cons_inv p) h1'.2 h2'.2]
theorem str2_of {a : Ks} (h : a.Pairwise le2) (hn : (a.map (·.1)).Nodup) (hi : ∀ q ∈ a, ∃ c : Nat, q.1 = .inl (c : Int)) : Str2 a := by
  have hn : a.Pairwise fun x y => x.1 ≠ y.1 := List.pairwise_map.mp hn
  have h2 := List.Pairwise.and h hn
  refine List.Pairwise.imp_of_mem (fun {x y} hx hy z => ?_) h2
  obtain ⟨c, e1⟩ := hi x hx
  obtain ⟨c', e2⟩ := hi y hy
  obtain ⟨z1, z2⟩ := z
  unfold le2 lexB at z1
  rw [e1, e2] at z1 z2 ⊢
  show (c : Int) < (c' : Int)
  have ne : ¬ ((c' : Int) = (c : Int)) := fun q => z2 (by rw [q])
  have z1 : (if (c' : Int) = (c : Int) then decide (y.2 < x.2) else decide ((c' : Int) < (c : Int))) = false := z1
  rw [if_neg ne] at z1
  have := of_decide_eq_false z1
  omega
theorem str2_rsK {m : Nat} {l : K70.RL} (h : K70.LOk m l) : Str2 (rsK l) := by
  unfold Str2 rsK
  rw [List.pairwise_map]
  refine List.Pairwise.imp ?_ h.srt
  intro a b hab
  show (a.1 : Int) < (b.1 : Int)
  omega
theorem ins_perm (q : Nat × Int) : ∀ l : K70.RL, (K70.ins q l).Perm (q :: l)
  | [] => List.Perm.refl _
  | x :: r => by
    unfold K70.ins
    split
    · exact ((ins_perm q r).cons x).trans (List.Perm.swap q x r)
    · exact List.Perm.refl _
theorem rsK_cons {q : Nat × Int} {l : K70.RL} : rsK (q :: l) = (.inl (q.1 : Int), q.2) :: rsK l := rfl
theorem rsK_ins {q : Nat × Int} {l : K70.RL} : (rsK (K70.ins q l)).Perm ((.inl (q.1 : Int), q.2) :: rsK l) := (ins_perm q l).map _
theorem sortRL_perm : ∀ {w : Ks}, (∀ q ∈ w, ∃ c : Nat, q.1 = .inl (c : Int)) → (rsK (sortRL w)).Perm w
  | [], _ => List.Perm.refl _
  | q :: w, h => by
    obtain ⟨c, e⟩ := h q List.mem_cons_self
    have ih := sortRL_perm fun x hx => h x (List.mem_cons_of_mem _ hx)
    unfold sortRL
    refine rsK_ins.trans ?_
    have : (Sum.inl ((cellOf q.1 : Nat) : Int), q.2) = q := by
      rw [e]
      show (Sum.inl (((c : Int).toNat : Nat) : Int), q.2) = q
      rw [Int.toNat_natCast, ← e]
    rw [this]
    exact ih.cons q
theorem rsD_pair {l : K70.RL} : (rsK l).map pairK = rsD l := by
  unfold rsK rsD
  rw [List.map_map]
  rfl
theorem srtOf_nodup {w w' : Ks} (h : SrtOf w w') (hn : (w.map (·.1)).Nodup) (hi : ∀ q ∈ w, ∃ c : Nat, q.1 = .inl (c : Int)) : Str2 w' :=
  str2_of h.2 ((h.1.map (·.1)).nodup_iff.mpr hn) fun q hq => hi q (h.1.mem_iff.mp hq)
theorem sorted_wr {m : Nat} {w w' : Ks} (h : SrtOf w w') (hn : (w.map (·.1)).Nodup) (hi : ∀ q ∈ w, ∃ c : Nat, c < m ∧ q.1 = .inl (c : Int)) : w'.map pairK = rsD (sortRL w) := by
  have hi' : ∀ q ∈ w, ∃ c : Nat, q.1 = .inl (c : Int) := fun q hq => let ⟨c, _, e⟩ := hi q hq; ⟨c, e⟩
  rw [← rsD_pair, str2_uniq (h.1.trans (sortRL_perm hi').symm) (srtOf_nodup h hn hi') (str2_rsK (sortRL_ok hn hi))]
theorem rsK_inl {l : K70.RL} : ∀ q ∈ rsK l, ∃ c : Nat, q.1 = .inl (c : Int) := fun q hq => by
  obtain ⟨x, _, e⟩ := List.mem_map.mp hq
  exact ⟨x.1, by rw [← e]⟩
theorem rsK_keys {l : K70.RL} : (rsK l).map (·.1) = l.map fun q => Sum.inl (q.1 : Int) := by
  unfold rsK; rw [List.map_map]; rfl
theorem rsK_nodup {m : Nat} {l : K70.RL} (h : K70.LOk m l) : ((rsK l).map (·.1)).Nodup := by
  rw [rsK_keys]
  refine List.pairwise_map.mpr (List.Pairwise.imp ?_ h.srt)
  intro a b hab e
  have := Sum.inl.inj e
  omega
theorem sorted_ins {m : Nat} {l : K70.RL} {q : Nat × Int} {w : Ks} (h : SrtOf (rsK l ++ [(.inl (q.1 : Int), q.2)]) w) (hl : K70.LOk m (K70.ins q l)) : w.map pairK = rsD (K70.ins q l) := by
  have p : (rsK (K70.ins q l)).Perm (rsK l ++ [(.inl (q.1 : Int), q.2)]) := rsK_ins.trans (List.perm_append_comm (l₁ := [_]))
  have hn : ((rsK l ++ ([(.inl (q.1 : Int), q.2)] : Ks)).map (·.1)).Nodup := (p.map (·.1)).nodup_iff.mp (rsK_nodup hl)
  have hi : ∀ x ∈ rsK l ++ ([(.inl (q.1 : Int), q.2)] : Ks), ∃ c : Nat, x.1 = .inl (c : Int) := fun x hx => rsK_inl x (p.mem_iff.mpr hx)
  rw [← rsD_pair, str2_uniq (h.1.trans p.symm) (srtOf_nodup h hn hi) (str2_rsK hl)]
theorem slot_good {m : Nat} {f : Fr} (h : FrOk m f) : ∀ q ∈ f.sl, good false q.1 := fun q hq => by
  obtain ⟨s, e⟩ := h.s2 q hq
  rw [e]
  show s.str ∈ abx
  cases s <;> decide +kernel
def frLen (f : Fr) : Nat := max f.sl.length (max f.wr.length f.told.length)
theorem putP_len {ps : Ks} {k : Key} {n : Int} : (putP ps k n).length ≤ ps.length + 1 := by
  unfold putP
  split
  · rw [List.length_map]; omega
  · simp
theorem setSl_len {f : Fr} {s : Sl} {n : Int} : frLen (setSl f s n) ≤ frLen f + 1 := by
  have := putP_len (ps := f.sl) (k := .inr s.str) (n := n)
  unfold frLen setSl; simp only; omega
mutual
theorem stepOn_len {r : Ks} : ∀ {s : Sp'} {f : Fr}, frLen (stepOn r s f).2 ≤ frLen f + spSize s
  | .read s c, f => by
    unfold stepOn
    have := fun n => setSl_len (f := f) (s := s) (n := n)
    split
    · exact this _
    · split
      · exact this _
      · show frLen f ≤ _; omega
  | .write c e, f => by
    unfold stepOn
    have := putP_len (ps := f.wr) (k := .inl (c : Int)) (n := worthF f e)
    show frLen { f with wr := _ } ≤ frLen f + 1
    unfold frLen; simp only; omega
  | .letS s e, f => by unfold stepOn; exact setSl_len
  | .tell e, f => by
    unfold stepOn
    show frLen { f with told := _ } ≤ frLen f + 1
    unfold frLen; simp only [List.length_append, List.length_singleton]; omega
  | .ifS e p q, f => by
    unfold stepOn
    have h1 := walkOn_len (r := r) (p := p) (f := f)
    have h2 := walkOn_len (r := r) (p := q) (f := f)
    simp only [spSize]
    split <;> omega
  | .inner p q, f => by
    unfold stepOn
    have h1 := walkOn_len (r := r) (p := p) (f := f)
    have h2 := walkOn_len (r := r) (p := q) (f := f)
    simp only [spSize]
    split <;> omega
  | .either p q, f => by
    unfold stepOn
    have h1 := walkOn_len (r := r) (p := p) (f := f)
    have h2 := walkOn_len (r := r) (p := q) (f := f)
    simp only [spSize]
    split <;> omega
  | .out, f => by unfold stepOn; show frLen f ≤ _; omega
  | .retry, f => by unfold stepOn; show frLen f ≤ _; omega
theorem walkOn_len {r : Ks} : ∀ {p : Pg} {f : Fr}, frLen (walkOn r p f).2 ≤ frLen f + pgSize p
  | [], f => by unfold walkOn; show frLen f ≤ _; omega
  | s :: t, f => by
    unfold walkOn
    have h1 := stepOn_len (r := r) (s := s) (f := f)
    have h2 := walkOn_len (r := r) (p := t) (f := (stepOn r s f).2)
    simp only [pgSize]
    split <;> omega
end
/-! ### rules -/
section
variable {X : Cx}
/-- y = {k: v for ..} where the dict that is walked stands locked -/
theorem ps_setDcK {i : Nat} {y : Str} {py : Pos} {kx vx tg iter : Expr} {ifs : List Expr} {scope : Scope} {own : List (Str × Nat)} {pos spos : Pos} {wi : TI} {g : TG} {tt : TT} {tk tv : TE} (hc : X.calm = true) (hN : X.N.Nodup) (hy : X.N[i]? = some y) (hyl : X.env.scope.names.lookup y = some .local)
    (hsw : swapsWith (.DictComp kx vx [⟨tg, iter, ifs, 0⟩] scope pos) (some (.Name y py)) spos.line X.env = pure true) (hi : PI X tg iter wi) (ok : BlkOk X.N X.env.scope scope own)
    (hg : ∀ (s : Shared) (H : Hp) (C : Addr) (cl : List (Str × Addr)) (fp : List Addr), PG (X.blk s H scope (compEnvC scope cl C X.env) fp) tg g) (ht : ∀ (s : Shared) (H : Hp) (C : Addr) (cl : List (Str × Addr)) (fp : List Addr), PTs (X.blk s H scope (compEnvC scope cl C X.env) fp) ifs tt)
    (hk : ∀ (s : Shared) (H : Hp) (C : Addr) (cl : List (Str × Addr)) (fp : List Addr), PE (X.blk s H scope (compEnvC scope cl C X.env) fp) kx tk)
    (he : ∀ (s : Shared) (H : Hp) (C : Addr) (cl : List (Str × Addr)) (fp : List Addr), PE (X.blk s H scope (compEnvC scope cl C X.env) fp) vx tv) (hs : ∀ x, foldedSetIterable iter X.env x = pure x := by intro _; rfl) :
    PS X (.Assign [.Name y py] (.DictComp kx vx [⟨tg, iter, ifs, 0⟩] scope pos) spos) (tAsg (tLockE (tDc wi g tt tk tv (own.map (·.2)))) (gName i)) := by
  refine ⟨fun pins s σ H D I h => ?_⟩
  rw [exec_Assign_Name_used _ _ _ _ hsw]
  refine wpAny_bind (wpAny_standAt (wpAny_bind ?_))
  show wpAny _ X.A (do let _ ← comprehension (.DictComp kx vx [⟨tg, iter, ifs, 0⟩] scope pos) scope X.env (firstIterPos [⟨tg, iter, ifs, 0⟩] pos) newDict false (eval iter X.env) (some (assign (.Name y py) X.env))) _ _ s
  have h : tLockE (tDc wi g tt tk tv (own.map (·.2))) σ H (fun x H1 => gName i x σ H1 D.nx) := h
  obtain ⟨d, u, hd, mu, hw⟩ := h
  obtain ⟨od, I1⟩ := I.lock hd mu
  refine wpAny_bind (thn (dc_core (Qf := fun _ s' => SP X pins D .next s') hc hN I1 hi ok hg ht hk he hs (hw od) fun L C s' m H' I' q hn f => ?_) fun _ s' hq => wpAny_pure (wpAny_pure hq))
  obtain ⟨e2, q⟩ := q
  show wpAny _ _ (assign (.Name y py) X.env (.ref L)) _ _ _
  refine wpAny_assign_Name (store_ok2 (v := V.ref L) I' hN hy (.inl hyl) rfl (fun s2 I2 ⟨a, sb, ha⟩ => ?_) (.inr hyl))
  obtain ⟨f0, f1, f2, f3, f4, f5⟩ := f
  have haC : C ≠ a := by
    rcases ha with z | z
    · rw [z]; exact f1
    · exact fun e => f4 y a z e.symm
  refine ⟨m, hn.sameBut sb haC, fun h3 sb3 => ?_⟩
  exact ⟨_, _, (I2.turned (t' := s2.toks) (fun b o hb e => (sb3.2 b hb).trans e) f0 f1 f3 f4 f5).unlock e2 (I.nofrz hd mu), q⟩
theorem sw_trueD {kx vx : Expr} {gs : List Comprehension} {scope : Scope} {pos py : Pos} {y : Str} {l : Nat} {env : Env} (hk : env.scope.kind = .function) (hy : env.scope.names.lookup y = some .local) (hl : (py.line == pos.line) = true)
    (ha : (scope.names.any fun (n, k) => n == y && (k == .local || k == .cell)) = false) : swapsWith (.DictComp kx vx gs scope pos) (some (.Name y py)) l env = pure true := by
  have ky : env.kindOf y = some .local := hy
  have hb : env.blockKind = .function := by unfold Env.blockKind; rw [hk]; rfl
  unfold swapsWith
  simp only [hb, ky, ha, Expr.pos, hl]
  rfl
end
def EvAP (K : PySem.W.Frag) (ta : TA) (Γ : Gm) (A : List D → Prop) : Prop := ∀ σ H, SA K H σ Γ → ∀ Q : List V → Hp → Prop, (∀ vs H' ds, A ds → Same H H' → AtL K H' ds vs → Q vs H') → ta σ H Q
section
variable {K : PySem.W.Frag} {Γ : Gm} {ta tk : TA} {te : TE} {ds es : List D} {P : D → Prop} {A B : List D → Prop} {R : List D → (D → Prop) → Prop}
theorem evap_one (h : EvP K te Γ P) : EvAP K (tCons te tNil) Γ (fun ds => ∃ d, P d ∧ ds = [d]) := fun σ H sa Q q =>
  h σ H sa _ fun x H1 d p e a => q [x] H1 [d] ⟨d, p, rfl⟩ e (AtL.one a)
theorem evp_cbP {r : List V → Hp → VK → Prop} (h : EvAP K ta Γ A) (hr : ∀ ds, A ds → RCP K r ds P) : EvP K (tCB r ta) Γ P := fun σ H sa Q q =>
  h σ H sa _ fun vs H1 ds a e al => hr ds a vs H1 al Q fun v H2 d p e2 a2 => q v H2 d p (e.trans e2) a2
theorem RC.p {r : List V → Hp → VK → Prop} {d : D} (h : RC K r ds d) (hp : P d) : RCP K r ds P := fun vs H a Q q => h vs H a Q fun v H' e a' => q v H' d hp e a'
theorem evp_callN {n m : Nat} {E : XK} (h : EvA K ta Γ ds) (hk : EvAP K tk Γ B) (hn : ds.length = n) (hr : ∀ es, B es → es.length = m ∧ R (ds ++ es) P) : EvP K (tCallN n m (spD K R) (fun vs zs => vs ++ zs) E ta tk) Γ P := fun σ H sa Q q =>
  h σ H sa _ fun vs H1 e1 a1 => hk σ H1 (sa.mono e1) _ fun zs H2 es b e2 a2 => by
    obtain ⟨l, r⟩ := hr es b
    refine ⟨by rw [AtL.len a1, hn], by rw [AtL.len a2, l], ds ++ es, P, r, AtL.append (AtL.mono e2 a1) a2, fun v H' d p e a => q v H' d p ((e1.trans e2).trans e) a⟩
theorem gd_star1 {d : D} {i j : Nat} {nx : Gm → Prop} (h : nx ((Γ.set i (some d)).set j (some (.lst ds)))) : GD K (gStar K 1 (gCons (gName i) (gCons (gName j) gNil))) (.tup (d :: ds)) Γ nx :=
  gd_star (n := 1) (by simp) (gds_cons (gd_name (gds_cons (gd_name (gds_nil h)))))
theorem gd_star3 {d1 d2 d3 : D} {i1 i2 i3 j : Nat} {nx : Gm → Prop} (h : nx ((((Γ.set i1 (some d1)).set i2 (some d2)).set i3 (some d3)).set j (some (.lst ds)))) : GD K (gStar K 3 (gCons (gName i1) (gCons (gName i2) (gCons (gName i3) (gCons (gName j) gNil))))) (.tup (d1 :: d2 :: d3 :: ds)) Γ nx :=
  gd_star (n := 3) (by simp) (gds_cons (gd_name (gds_cons (gd_name (gds_cons (gd_name (gds_cons (gd_name (gds_nil h)))))))))
/-- tuple(sorted(d.items())), any order -/
theorem evp_ptI {ty : Bool} {ps : Ks} (hd : Ev K te Γ (.dct (kvI ps))) (hg : ∀ q ∈ ps, good ty q.1) : EvP K (tCB (rPT K) (tCons (tCB rSrtI (tCons (tBM0 K "dict" rItemsK te) tNil)) tNil)) Γ (fun d => ∃ ps', SrtOf ps ps' ∧ d = .ptup (ps'.map pairK)) :=
  evp_cbP (evap_one (evp_srtI hd hg)) fun ds ⟨d, ⟨ps', so, e⟩, e2⟩ => by
    subst e e2
    exact RC.p rc_ptup ⟨ps', so, rfl⟩
end
section
variable {P : Program} {w : World} {K : PySem.W.Frag} {mg : Str → Option Value} {base : Heap}
theorem ok_never {x qual : Str} {st : Stmt} {f : Addr} {fd : FuncData} {N ps : List Str} {R : List D → (D → Prop) → Prop} (F : Fun K x qual st f fd) (S : FnScope N ps (defScope st)) (hR : ∀ ds Q, ¬ R ds Q) : FnOk P w K mg base CX0 1 f fd ps (spD K R) := by
  refine F.ok S (fun vs H Q E h => ?_) (fun cdv A outer s H vs Q E hr h => ?_)
  · obtain ⟨ds, Pp, r, _⟩ := h; exact (hR _ _ r).elim
  · obtain ⟨ds, Pp, r, _⟩ := h; exact (hR _ _ r).elim
theorem kb_worth {f : Addr} {fd : FuncData} (F : Fun K "worth" "worth" s_worth f fd) : KBn K fd ["amount", "slots"] 1 ["slots"] (fun us ws => us ++ ws) (fun vs zs => vs ++ zs) := by
  obtain ⟨oc, od, kV, doc, pm, an, cdv, ct, osl, rfl, lk, hcd⟩ := F.ex
  refine ⟨fun s us ws _ l1 l2 => ?_, fun r1 r2 => r1.append r2⟩
  match us, ws, l1, l2 with
  | [_], [_], _, _ => exact .of_eq rfl
local macro_rules | `(tactic| walk_at "ev") => `(tactic| first
  | exact ev_var rfl | exact ev_int | exact ev_str | exact ev_non | exact ev_bl | exact ev_pt0 | exact ev_ref
  | (refine ev_tup ?_ (sz5 (Nat.le_of_ble_eq_true rfl)); walk_at "eva")
  | (refine ev_op (d1 := .tup _) (r := rIx _) ?_ ?_ (rd_ixT' ?_ ?_); walk_at "ev"; walk_at "ev"; (first | decide | omega); (first | rfl | assumption))
  | (refine ev_op (d1 := .lst _) (r := rIx _) ?_ ?_ (rd_ixL' ?_ ?_); walk_at "ev"; walk_at "ev"; (first | decide | omega); (first | rfl | assumption))
  | (refine ev_op ?_ ?_ rd_int; walk_at "ev"; walk_at "ev")
  | (refine ev_op ?_ ?_ rd_bl; walk_at "ev"; walk_at "ev")
  | (refine ev_cb ?_ rc_lenT; walk_at "eva")
  | (refine ev_cb ?_ rc_lenL; walk_at "eva")
  | assumption)
local macro_rules | `(tactic| walk_at "eva") => `(tactic| first | exact eva_nil | (refine eva_cons ?_ ?_; walk_at "ev"; walk_at "eva"))
local macro_rules | `(tactic| walk_at "no") => `(tactic| refine q_seq (q_if (b := false) ((ev_isEqS (ev_var rfl) ev_str).eq (by decide +kernel)) (fun c => by cases c) fun _ => q_next ?_))
local macro_rules | `(tactic| walk_at "yes") => `(tactic| refine q_seq (q_if (b := true) ((ev_isEqS (ev_var rfl) ev_str).eq (by decide +kernel)) (fun _ => ?_) fun c => by cases c))
def R_reckoned (n : Nat) (ds : List D) (Q : D → Prop) : Prop := ∃ (e : Sm) (ps : Ks), ds = [smD e, .dct (kvI ps)] ∧ e.dep < n ∧ Q = fun d => d = .int (reck (lookS ps) e)
theorem ok_reckoned (T : Txt K w mg) : ∀ n : Nat, FnOk P w K mg base CX0 (n + 1) T.d_reckoned.f T.d_reckoned.fd ["amount", "given"] (spD K (R_reckoned n))
  | 0 => ok_never T.d_reckoned.F sc_reckoned fun ds Q h => by obtain ⟨_, _, _, h, _⟩ := h; omega
  | n + 1 => by
    have G_reckoned := ok_reckoned T n
    refine fn_data T.d_reckoned.F sc_reckoned (fun ds Q h => by obtain ⟨_, _, rfl, _⟩ := h; rfl) fun cdv A outer s H E hr => ?_
    have hu := hu_of (hr.mono (Nat.zero_le _))
    refine ⟨_, (pss_cons (ps_asg (pv 0) (pg_star rfl (pgs_cons (pg_name (i := 2) sc_reckoned.nd rfl (Or.inl rfl)) (pgs_star (pg_name (i := 3) sc_reckoned.nd rfl (Or.inl rfl)) pgs_nil))))
    (pss_cons (ps_if (pt_cmpR op_eq (pv 2) pe_str (nomark _)) (pss_one (ps_ret (pe_ix ix_seq (pv 3) pe_int (fun _ _ => rfl)))) pss_nil)
    (pss_cons (ps_if (pt_cmpR op_eq (pv 2) pe_str (nomark _)) (pss_one (ps_ret (pe_dget2 hu (pv 1) (pe_ix ix_seq (pv 3) pe_int (fun _ _ => rfl)) pe_int ⟨rfl, rfl, rfl, rfl⟩))) pss_nil)
    (pss_cons (ps_par (i := 4) (j := 5) rfl sc_reckoned.nd rfl rfl (by decide) rfl rfl (pa_cons (pe_call G_reckoned (hr.mono (by first | decide | omega)) rfl T.d_reckoned.m T.d_reckoned.kp (b_reckoned T.d_reckoned.F) .nil pass0 (pa_cons (pe_ix ix_seq (pv 3) pe_int (fun _ _ => rfl)) (pa_cons (pv 1) pa_nil))) (pa_cons (pe_call G_reckoned (hr.mono (by first | decide | omega)) rfl T.d_reckoned.m T.d_reckoned.kp (b_reckoned T.d_reckoned.F) .nil pass0 (pa_cons (pe_ix ix_seq (pv 3) pe_int (fun _ _ => rfl)) (pa_cons (pv 1) pa_nil))) pa_nil)) (by rfl))
    (pss_cons (ps_if (pt_cmpR op_eq (pv 2) pe_str (nomark _)) (pss_one (ps_ret (pe_ifExp (pt_cmpR op_lt (pv 4) (pv 5) (nomark _)) pe_int pe_int))) pss_nil)
    (pss_one (ps_ret (pe_ifExp (pt_cmpR op_eq (pv 2) pe_str (nomark _)) (pe_op op_add (pv 4) (pv 5)) (pe_op op_sub (pv 4) (pv 5)))))))))), fun ds Q h => ?_⟩
    obtain ⟨e, ps, rfl, hd, rfl⟩ := h
    have call : ∀ {Γ : Gm} {te : TE} {E : XK} {e1 : Sm}, Ev K te Γ (smD e1) → Γ[1]? = some (some (.dct (kvI ps))) → e1.dep < n → Ev K (tCall (spD K (R_reckoned n)) [] E (tCons te (tCons (tVar 1) tNil))) Γ (.int (reck (lookS ps) e1)) := fun h1 h2 h3 =>
      ev_call (eva_cons h1 (eva_cons (ev_var h2) eva_nil)) ⟨_, ps, rfl, h3, rfl⟩ fun _ e => e
    cases e with
    | num i =>
      refine q_seq (q_asg (d := smD (.num i)) (ev_var rfl) (gd_star1 ?_))
      walk_at "yes"
      exact q_retD (ev_ixl (ev_var rfl) (by decide) rfl) rfl
    | slot z =>
      refine q_seq (q_asg (d := smD (.slot z)) (ev_var rfl) (gd_star1 ?_))
      walk_at "no"
      walk_at "yes"
      refine q_retD (ev_dgetor (d1 := .str z.str) (d2 := .int 0) (k := .inr z.str) (v2 := .int 0) (ev_var rfl) (ev_ixl (ev_var rfl) (by decide) rfl) ev_int rfl rfl fun H => ?_) rfl
      rw [valV_look]
      show At K H (.int ((look ps (.inr z.str)).getD 0)) _
      cases look ps (.inr z.str) <;> rfl
    | plus l r =>
      have hd : max l.dep r.dep + 1 < n + 1 := hd
      refine q_seq (q_asg (d := smD (.plus l r)) (ev_var rfl) (gd_star1 ?_))
      walk_at "no"
      walk_at "no"
      refine q_seq (q_par (eva_cons (call (e1 := l) (ev_ixl (ev_var rfl) (by decide) rfl) rfl (by omega)) (eva_cons (call (e1 := r) (ev_ixl (ev_var rfl) (by decide) rfl) rfl (by omega)) eva_nil)) ?_)
      walk_at "no"
      refine q_retD (ev_if (b := true) ((ev_isEqS (ev_var rfl) ev_str).eq (by decide +kernel)) (fun _ => ev_op (ev_var rfl) (ev_var rfl) rd_int) fun c => by cases c) rfl
    | minus l r =>
      have hd : max l.dep r.dep + 1 < n + 1 := hd
      refine q_seq (q_asg (d := smD (.minus l r)) (ev_var rfl) (gd_star1 ?_))
      walk_at "no"
      walk_at "no"
      refine q_seq (q_par (eva_cons (call (e1 := l) (ev_ixl (ev_var rfl) (by decide) rfl) rfl (by omega)) (eva_cons (call (e1 := r) (ev_ixl (ev_var rfl) (by decide) rfl) rfl (by omega)) eva_nil)) ?_)
      walk_at "no"
      refine q_retD (ev_if (b := false) ((ev_isEqS (ev_var rfl) ev_str).eq (by decide +kernel)) (fun c => by cases c) fun _ => ev_op (ev_var rfl) (ev_var rfl) rd_int) rfl
    | less l r =>
      have hd : max l.dep r.dep + 1 < n + 1 := hd
      refine q_seq (q_asg (d := smD (.less l r)) (ev_var rfl) (gd_star1 ?_))
      walk_at "no"
      walk_at "no"
      refine q_seq (q_par (eva_cons (call (e1 := l) (ev_ixl (ev_var rfl) (by decide) rfl) rfl (by omega)) (eva_cons (call (e1 := r) (ev_ixl (ev_var rfl) (by decide) rfl) rfl (by omega)) eva_nil)) ?_)
      walk_at "yes"
      refine q_retD (d := .int (reck (lookS ps) (.less l r))) (ev_if (eb_test (ev_op (ev_var rfl) (ev_var rfl) rd_bl)) (fun c => ?_) fun c => ?_) rfl
      · have c := of_decide_eq_true c
        show Ev K _ _ (.int (if reck (lookS ps) l < reck (lookS ps) r then 1 else 0))
        rw [if_pos c]; exact ev_int
      · have c := of_decide_eq_false c
        show Ev K _ _ (.int (if reck (lookS ps) l < reck (lookS ps) r then 1 else 0))
        rw [if_neg c]; exact ev_int
def R_worth (ds : List D) (Q : D → Prop) : Prop := ∃ (e : Sm) (ps : Ks), ds = [smD e, .ptup (ps.map pairK)] ∧ e.dep ≤ 3 ∧ (ps.map (·.1)).Nodup ∧ Q = fun d => d = .int (reck (lookS ps) e)
theorem ok_worth (T : Txt K w mg) : FnOk P w K mg base CX0 6 T.d_worth.f T.d_worth.fd ["amount", "slots"] (spD K R_worth) := by
  have G_reckoned := ok_reckoned (P := P) (base := base) T 4
  refine fn_data T.d_worth.F sc_worth (fun ds Q h => by obtain ⟨_, _, rfl, _⟩ := h; rfl) fun cdv A outer s H E hr => ?_
  refine ⟨_, (pss_one (ps_ret (pe_call G_reckoned (hr.mono (by first | decide | omega)) rfl T.d_reckoned.m T.d_reckoned.kp (b_reckoned T.d_reckoned.F) .nil pass0 (pa_cons (pv 0) (pa_cons (pe_callTy (call_dictPT rfl) (by rfl) T.z_dict (by decide +kernel) (pa_cons (pv 1) pa_nil)) pa_nil))))), fun ds Q h => ?_⟩
  obtain ⟨e, ps, rfl, hd, hn, rfl⟩ := h
  exact q_retD (ev_call (eva_cons (ev_var rfl) (eva_cons (ev_cb (eva_cons (ev_var rfl) eva_nil) (rc_dictPT hn)) eva_nil)) ⟨e, ps, rfl, by omega, rfl⟩ fun _ e => e) rfl
def R_fresh (ds : List D) (Q : D → Prop) : Prop := ds = [] ∧ Q = fun d => d = frD ⟨[], [], []⟩
theorem ok_fresh (T : Txt K w mg) : FnOk P w K mg base CX0 1 T.d_fresh.f T.d_fresh.fd [] (spD K R_fresh) := by
  refine fn_data T.d_fresh.F sc_fresh (fun ds Q h => by obtain ⟨rfl, _⟩ := h; rfl) fun cdv A outer s H E hr => ?_
  refine ⟨_, (pss_one (ps_ret (pe_tup (pa_cons pe_dnewK (pa_cons pe_dnewK (pa_cons pe_pt0 pa_nil)))))), fun ds Q h => ?_⟩
  obtain ⟨rfl, rfl⟩ := h
  exact q_retD (ev_tup (eva_cons ev_dnew (eva_cons ev_dnew (eva_cons (ev_pt ev_pt0) eva_nil))) (sz5 (Nat.le_of_ble_eq_true rfl))) rfl
def R_weighed (ds : List D) (Q : D → Prop) : Prop := ∃ (e : Sm) (f : Fr) (m : Nat), ds = [smD e, frD f] ∧ e.dep ≤ 3 ∧ FrOk m f ∧ Q = fun d => d = .int (worthF f e)
theorem ok_weighed (T : Txt K w mg) : FnOk P w K mg base CX0 7 T.d_weighed.f T.d_weighed.fd ["amount", "frame"] (spD K R_weighed) := by
  have G_worth := ok_worth (P := P) (base := base) T
  refine fn_data T.d_weighed.F sc_weighed (fun ds Q h => by obtain ⟨_, _, _, rfl, _⟩ := h; rfl) fun cdv A outer s H E hr => ?_
  refine ⟨_, (pss_one (ps_ret (pe_callN G_worth (hr.mono (by first | decide | omega)) rfl T.d_worth.m T.d_worth.kp (kb_worth T.d_worth.F) pass0 (pa_cons (pv 0) pa_nil) (pk_cons (pe_callTy call_ptuple (by rfl) T.z_tuple (by decide +kernel) (pa_cons (pe_callB (cr_srtI rfl) (by rfl) T.z_sorted (by decide +kernel) (pa_cons (pe_bm0 PySem.F.plainAttrs_dict PySem.F.slot_dict_items PySem.F.type_dict_items mt_itemsK (pe_ix ix_seq (pv 1) pe_int (fun _ _ => rfl))) pa_nil)) pa_nil)) pk_nil)))), fun ds Q h => ?_⟩
  obtain ⟨e, f, m, rfl, hd, hf, rfl⟩ := h
  refine q_ret (evp_callN (eva_cons (ev_var rfl) eva_nil) (evap_one (evp_ptI (ty := false) (ps := f.sl) (ev_ix (ev_var rfl) (by decide) rfl) (slot_good hf))) rfl fun es b => ?_) (fun d e => e)
  obtain ⟨d, ⟨ps', so, rfl⟩, rfl⟩ := b
  refine ⟨rfl, e, ps', rfl, hd, (so.1.map (·.1)).nodup_iff.mpr hf.s1, ?_⟩
  rw [lookS_perm so.1 hf.s1]
  rfl
def R_with_slot (ds : List D) (Q : D → Prop) : Prop := ∃ (f : Fr) (z : Sl) (n : Int) (m : Nat), ds = [frD f, .str z.str, .int n] ∧ FrOk m f ∧ frLen f ≤ 100000 ∧ Q = fun d => d = frD (setSl f z n)
theorem ok_with_slot (T : Txt K w mg) : FnOk P w K mg base CX0 1 T.d_with_slot.f T.d_with_slot.fd ["frame", "slot", "number"] (spD K R_with_slot) := by
  refine fn_data T.d_with_slot.F sc_with_slot (fun ds Q h => by obtain ⟨_, _, _, _, rfl, _⟩ := h; rfl) fun cdv A outer s H E hr => ?_
  have hu := hu_of hr
  refine ⟨_, (pss_cons (ps_setDcK (i := 3) (own := [("name", 4)]) (g := (gName 4)) (tt := tYes) (tk := (tVar 4)) (tv := (tDGet (tOp (rIx K) (tVar 0) (tC (.int 0))) (tVar 4))) rfl sc_with_slot.nd rfl rfl (sw_trueD rfl rfl rfl (by decide +kernel)) (pi_keys (pe_ix ix_seq (pv 0) pe_int (fun _ _ => rfl))) (blkOk_by (N := N_with_slot) (sc := defScope s_with_slot) (by decide +kernel)) (fun _ _ _ _ _ => (pg_name (i := 4) sc_with_slot.nd rfl (Or.inl rfl) (.inr rfl))) (fun _ _ _ _ _ => pts_nil) (fun _ _ _ _ _ => (pv 4)) (fun _ _ _ _ _ => (pe_dget hu (pe_ix ix_seq (pv 0) pe_int (fun _ _ => rfl)) (pv 4) (fun _ _ => rfl))))
    (pss_cons (ps_dput hu (pv 3) (pv 1) (pv 2) rfl)
    (pss_one (ps_ret (pe_tup (pa_cons (pv 3) (pa_cons (pe_ix ix_seq (pv 0) pe_int (fun _ _ => rfl)) (pa_cons (pe_ix ix_seq (pv 0) pe_int (fun _ _ => rfl)) pa_nil)))))))), fun ds Q h => ?_⟩
  obtain ⟨f, z, n, m, rfl, hf, hl, rfl⟩ := h
  unfold frLen at hl
  refine q_copyput (ps := f.sl) (k := .inr z.str) (n := n) (dk := .str z.str) rfl rfl hf.s1 (by omega) (Nat.le_of_ble_eq_true rfl) (Nat.le_of_ble_eq_true rfl) (by decide) (ev_var rfl) (ev_var rfl) rfl ?_
  refine q_retD (d := frD (setSl f z n)) ?_ rfl
  exact ev_tup (eva_cons (ev_var rfl) (eva_cons (ev_ix (ev_var rfl) (by decide) rfl) (eva_cons (ev_ix (ev_var rfl) (by decide) rfl) eva_nil))) (sz5 (Nat.le_of_ble_eq_true rfl))
end
end Wk
set_option Elab.async false
set_option linter.all false
set_option maxRecDepth 100000
set_option maxHeartbeats 2000000
/-! walks -/
namespace Wk
open PySem PySem.Spec PyProof.Rows L2
section
variable {P : Program} {w : World} {K : PySem.W.Frag} {mg : Str → Option Value} {base : Heap}
local macro_rules | `(tactic| walk_at "ev") => `(tactic| first
  | exact ev_var rfl | exact ev_int | exact ev_str | exact ev_non | exact ev_bl | exact ev_pt0 | exact ev_ref
  | (refine ev_tup ?_ (sz5 (Nat.le_of_ble_eq_true rfl)); walk_at "eva")
  | (refine ev_op (d1 := .tup _) (r := rIx _) ?_ ?_ (rd_ixT' ?_ ?_); walk_at "ev"; walk_at "ev"; (first | decide | omega); (first | rfl | assumption))
  | (refine ev_op (d1 := .lst _) (r := rIx _) ?_ ?_ (rd_ixL' ?_ ?_); walk_at "ev"; walk_at "ev"; (first | decide | omega); (first | rfl | assumption))
  | (refine ev_op ?_ ?_ rd_int; walk_at "ev"; walk_at "ev")
  | (refine ev_op ?_ ?_ rd_bl; walk_at "ev"; walk_at "ev")
  | (refine ev_cb ?_ rc_lenT; walk_at "eva")
  | (refine ev_cb ?_ rc_lenL; walk_at "eva")
  | assumption)
local macro_rules | `(tactic| walk_at "eva") => `(tactic| first | exact eva_nil | (refine eva_cons ?_ ?_; walk_at "ev"; walk_at "eva"))
local macro_rules | `(tactic| walk_at "no") => `(tactic| refine q_seq (q_if (b := false) ((ev_isEqS (ev_var rfl) ev_str).eq (by decide +kernel)) (fun c => by cases c) fun _ => q_next ?_))
local macro_rules | `(tactic| walk_at "yes") => `(tactic| refine q_seq (q_if (b := true) ((ev_isEqS (ev_var rfl) ev_str).eq (by decide +kernel)) (fun _ => ?_) fun c => by cases c))
/-! ### a step -/
def R_on (c : Sp' → Prop) (n : Nat) (ds : List D) (Q : D → Prop) : Prop := ∃ (z : Sp') (f : Fr) (r : Ks) (m : Nat), c z ∧ ds = [spD' z, frD f, .dct (kvI r)] ∧ spOk m z ∧ spDep z < n ∧ FrOk m f ∧ frLen f + spSize z ≤ 100000 ∧ Q = fun d => d = .tup [wdD (stepOn r z f).1, frD (stepOn r z f).2]
def isRead : Sp' → Prop | .read _ _ => True | _ => False
def isWrite : Sp' → Prop | .write _ _ => True | _ => False
def isLet : Sp' → Prop | .letS _ _ => True | _ => False
def isTell : Sp' → Prop | .tell _ => True | _ => False
def isIf : Sp' → Prop | .ifS _ _ _ => True | _ => False
def isInner : Sp' → Prop | .inner _ _ => True | _ => False
def isEither : Sp' → Prop | .either _ _ => True | _ => False
def isLeave : Sp' → Prop | .out => True | .retry => True | _ => False
theorem ev_on {Γ : Gm} : ∀ {te : TE} {d : D}, Ev K te Γ d → Ev K te Γ d := fun h => h
theorem ok_read_on (T : Txt K w mg) (n : Nat) : FnOk P w K mg base CX0 2 T.d_read_on.f T.d_read_on.fd ["step", "frame", "reads"] (spD K (R_on isRead n)) := by
  have G_with_slot := ok_with_slot (P := P) (base := base) T
  refine fn_data T.d_read_on.F sc_read_on (fun ds Q h => by obtain ⟨_, _, _, _, _, rfl, _⟩ := h; rfl) fun cdv A outer s H E hr => ?_
  have hu := hu_of hr
  refine ⟨_, (pss_cons (ps_asg (pv 0) (pg_tup rfl (pgs_cons (pg_name (i := 3) sc_read_on.nd rfl (Or.inl rfl)) (pgs_cons (pg_name (i := 4) sc_read_on.nd rfl (Or.inl rfl)) (pgs_cons (pg_name (i := 5) sc_read_on.nd rfl (Or.inl rfl)) pgs_nil)))))
    (pss_cons (ps_if (pt_cmp (pc_din hu (pv 5) (pe_ix ix_seq (pv 1) pe_int (fun _ _ => rfl))) rfl) (pss_one (ps_ret (pe_tup (pa_cons (pe_globE rfl T.g_ON) (pa_cons (pe_call G_with_slot (hr.mono (by first | decide | omega)) rfl T.d_with_slot.m T.d_with_slot.kp (b_with_slot T.d_with_slot.F) .nil pass0 (pa_cons (pv 1) (pa_cons (pv 4) (pa_cons (pe_dget hu (pe_ix ix_seq (pv 1) pe_int (fun _ _ => rfl)) (pv 5) (fun _ _ => rfl)) pa_nil)))) pa_nil))))) pss_nil)
    (pss_cons (ps_if (pt_cmp (pc_din hu (pv 5) (pv 2)) rfl) (pss_one (ps_ret (pe_tup (pa_cons (pe_globE rfl T.g_ON) (pa_cons (pe_call G_with_slot (hr.mono (by first | decide | omega)) rfl T.d_with_slot.m T.d_with_slot.kp (b_with_slot T.d_with_slot.F) .nil pass0 (pa_cons (pv 1) (pa_cons (pv 4) (pa_cons (pe_dget hu (pv 2) (pv 5) (fun _ _ => rfl)) pa_nil)))) pa_nil))))) pss_nil)
    (pss_one (ps_ret (pe_tup (pa_cons (pv 5) (pa_cons (pv 1) pa_nil)))))))), fun ds Q h => ?_⟩
  obtain ⟨z, f, r, m, hz, rfl, ho, _, hf, hl, rfl⟩ := h
  cases z with
  | read s c =>
    have hl : frLen f + 1 ≤ 100000 := hl
    refine q_seq (q_asg (d := spD' (.read s c)) (ev_var rfl) (gd_un3 ?_))
    refine q_seq (q_if (b := (valV (kvI f.wr) (.inl (c : Int))).isSome) (eb_test (ev_din (d1 := .int (c : Int)) (ev_var rfl) (ev_ix (ev_var rfl) (by decide) rfl) rfl)) (fun b => ?_) fun b => q_next ?_)
    · rw [valV_look, Option.isSome_map] at b
      obtain ⟨n, en⟩ := Option.isSome_iff_exists.mp b
      refine q_retD (d := .tup [.str "on", frD (setSl f s n)]) ?_ ?_
      · refine ev_tup (eva_cons ev_str (eva_cons ?_ eva_nil)) (sz5 (Nat.le_of_ble_eq_true rfl))
        refine ev_call (eva_cons (ev_var rfl) (eva_cons (ev_var rfl) (eva_cons (d := .int n) ?_ eva_nil))) ⟨f, s, n, m, rfl, hf, by omega, rfl⟩ fun _ e => e
        exact ev_dget (d1 := .int (c : Int)) (v := .int n) (k := .inl (c : Int)) (ev_ix (ev_var rfl) (by decide) rfl) (ev_var rfl) rfl (by rw [valV_look, en]; rfl) fun _ => rfl
      · unfold stepOn; rw [en]; rfl
    · rw [valV_look, Option.isSome_map] at b
      have en : look f.wr (.inl (c : Int)) = none := by simpa using b
      refine q_seq (q_if (b := (valV (kvI r) (.inl (c : Int))).isSome) (eb_test (ev_din (d1 := .int (c : Int)) (ev_var rfl) (ev_var rfl) rfl)) (fun b => ?_) fun b => q_next ?_)
      · rw [valV_look, Option.isSome_map] at b
        obtain ⟨n, em⟩ := Option.isSome_iff_exists.mp b
        refine q_retD (d := .tup [.str "on", frD (setSl f s n)]) ?_ ?_
        · refine ev_tup (eva_cons ev_str (eva_cons ?_ eva_nil)) (sz5 (Nat.le_of_ble_eq_true rfl))
          refine ev_call (eva_cons (ev_var rfl) (eva_cons (ev_var rfl) (eva_cons (d := .int n) ?_ eva_nil))) ⟨f, s, n, m, rfl, hf, by omega, rfl⟩ fun _ e => e
          exact ev_dget (d1 := .int (c : Int)) (v := .int n) (k := .inl (c : Int)) (ev_var rfl) (ev_var rfl) rfl (by rw [valV_look, em]; rfl) fun _ => rfl
        · unfold stepOn; rw [en, em]; rfl
      · rw [valV_look, Option.isSome_map] at b
        have em : look r (.inl (c : Int)) = none := by simpa using b
        refine q_retD (d := .tup [.int (c : Int), frD f]) ?_ ?_
        · walk_at "ev"
        · unfold stepOn; rw [en, em]; rfl
  | _ => exact hz.elim
theorem ok_write_on (T : Txt K w mg) (n : Nat) : FnOk P w K mg base CX0 8 T.d_write_on.f T.d_write_on.fd ["step", "frame", "reads"] (spD K (R_on isWrite n)) := by
  have G_weighed := ok_weighed (P := P) (base := base) T
  refine fn_data T.d_write_on.F sc_write_on (fun ds Q h => by obtain ⟨_, _, _, _, _, rfl, _⟩ := h; rfl) fun cdv A outer s H E hr => ?_
  have hu := hu_of (hr.mono (Nat.zero_le _))
  refine ⟨_, (pss_cons (ps_setDcK (i := 3) (own := [("cell", 4)]) (g := (gName 4)) (tt := tYes) (tk := (tVar 4)) (tv := (tDGet (tOp (rIx K) (tVar 1) (tC (.int 1))) (tVar 4))) rfl sc_write_on.nd rfl rfl (sw_trueD rfl rfl rfl (by decide +kernel)) (pi_keys (pe_ix ix_seq (pv 1) pe_int (fun _ _ => rfl))) (blkOk_by (N := N_write_on) (sc := defScope s_write_on) (by decide +kernel)) (fun _ _ _ _ _ => (pg_name (i := 4) sc_write_on.nd rfl (Or.inl rfl) (.inr rfl))) (fun _ _ _ _ _ => pts_nil) (fun _ _ _ _ _ => (pv 4)) (fun _ _ _ _ _ => (pe_dget hu (pe_ix ix_seq (pv 1) pe_int (fun _ _ => rfl)) (pv 4) (fun _ _ => rfl))))
    (pss_cons (ps_dput hu (pv 3) (pe_ix ix_seq (pv 0) pe_int (fun _ _ => rfl)) (pe_call G_weighed (hr.mono (by first | decide | omega)) rfl T.d_weighed.m T.d_weighed.kp (b_weighed T.d_weighed.F) .nil pass0 (pa_cons (pe_ix ix_seq (pv 0) pe_int (fun _ _ => rfl)) (pa_cons (pv 1) pa_nil))) rfl)
    (pss_one (ps_ret (pe_tup (pa_cons (pe_globE rfl T.g_ON) (pa_cons (pe_tup (pa_cons (pe_ix ix_seq (pv 1) pe_int (fun _ _ => rfl)) (pa_cons (pv 3) (pa_cons (pe_ix ix_seq (pv 1) pe_int (fun _ _ => rfl)) pa_nil)))) pa_nil))))))), fun ds Q h => ?_⟩
  obtain ⟨z, f, r, m, hz, rfl, ho, _, hf, hl, rfl⟩ := h
  cases z with
  | write c e =>
    have hl : frLen f + 1 ≤ 100000 := hl
    unfold frLen at hl
    refine q_copyput (ps := f.wr) (k := .inl (c : Int)) (n := worthF f e) (dk := .int (c : Int)) rfl rfl hf.w1 (by omega) (Nat.le_of_ble_eq_true rfl) (Nat.le_of_ble_eq_true rfl) (by decide) ?_ (ev_ix (ds := [.str "write", .int (c : Int), smD e]) (ev_var rfl) (by decide) rfl) rfl ?_
    · exact ev_call (eva_cons (d := smD e) (ev_ix (ds := [.str "write", .int (c : Int), smD e]) (ev_var rfl) (by decide) rfl) (eva_cons (ev_var rfl) eva_nil)) ⟨e, f, m, rfl, ho.2, hf, rfl⟩ fun _ e => e
    · refine q_retD (d := .tup [.str "on", frD { f with wr := putP f.wr (.inl (c : Int)) (worthF f e) }]) ?_ (by unfold stepOn; rfl)
      refine ev_tup (eva_cons ev_str (eva_cons ?_ eva_nil)) (sz5 (Nat.le_of_ble_eq_true rfl))
      exact ev_tup (eva_cons (ev_ix (ev_var rfl) (by decide) rfl) (eva_cons (ev_var rfl) (eva_cons (ev_ix (ev_var rfl) (by decide) rfl) eva_nil))) (sz5 (Nat.le_of_ble_eq_true rfl))
  | _ => exact hz.elim
theorem ok_let_on (T : Txt K w mg) (n : Nat) : FnOk P w K mg base CX0 8 T.d_let_on.f T.d_let_on.fd ["step", "frame", "reads"] (spD K (R_on isLet n)) := by
  have G_weighed := ok_weighed (P := P) (base := base) T
  have G_with_slot := ok_with_slot (P := P) (base := base) T
  refine fn_data T.d_let_on.F sc_let_on (fun ds Q h => by obtain ⟨_, _, _, _, _, rfl, _⟩ := h; rfl) fun cdv A outer s H E hr => ?_
  refine ⟨_, (pss_one (ps_ret (pe_tup (pa_cons (pe_globE rfl T.g_ON) (pa_cons (pe_call G_with_slot (hr.mono (by first | decide | omega)) rfl T.d_with_slot.m T.d_with_slot.kp (b_with_slot T.d_with_slot.F) .nil pass0 (pa_cons (pv 1) (pa_cons (pe_ix ix_seq (pv 0) pe_int (fun _ _ => rfl)) (pa_cons (pe_call G_weighed (hr.mono (by first | decide | omega)) rfl T.d_weighed.m T.d_weighed.kp (b_weighed T.d_weighed.F) .nil pass0 (pa_cons (pe_ix ix_seq (pv 0) pe_int (fun _ _ => rfl)) (pa_cons (pv 1) pa_nil))) pa_nil)))) pa_nil))))), fun ds Q h => ?_⟩
  obtain ⟨z, f, r, m, hz, rfl, ho, _, hf, hl, rfl⟩ := h
  cases z with
  | letS s e =>
    have hl : frLen f + 1 ≤ 100000 := hl
    refine q_retD (d := .tup [.str "on", frD (setSl f s (worthF f e))]) ?_ (by unfold stepOn; rfl)
    refine ev_tup (eva_cons ev_str (eva_cons ?_ eva_nil)) (sz5 (Nat.le_of_ble_eq_true rfl))
    refine ev_call (eva_cons (ev_var rfl) (eva_cons (ev_ix (ds := [.str "let", .str s.str, smD e]) (ev_var rfl) (by decide) rfl) (eva_cons (d := .int (worthF f e)) ?_ eva_nil))) ⟨f, s, _, m, rfl, hf, by omega, rfl⟩ fun _ e => e
    exact ev_call (eva_cons (d := smD e) (ev_ix (ds := [.str "let", .str s.str, smD e]) (ev_var rfl) (by decide) rfl) (eva_cons (ev_var rfl) eva_nil)) ⟨e, f, m, rfl, ho, hf, rfl⟩ fun _ e => e
  | _ => exact hz.elim
theorem ok_tell_on (T : Txt K w mg) (n : Nat) : FnOk P w K mg base CX0 8 T.d_tell_on.f T.d_tell_on.fd ["step", "frame", "reads"] (spD K (R_on isTell n)) := by
  have G_weighed := ok_weighed (P := P) (base := base) T
  refine fn_data T.d_tell_on.F sc_tell_on (fun ds Q h => by obtain ⟨_, _, _, _, _, rfl, _⟩ := h; rfl) fun cdv A outer s H E hr => ?_
  refine ⟨_, (pss_one (ps_ret (pe_tup (pa_cons (pe_globE rfl T.g_ON) (pa_cons (pe_tup (pa_cons (pe_ix ix_seq (pv 1) pe_int (fun _ _ => rfl)) (pa_cons (pe_ix ix_seq (pv 1) pe_int (fun _ _ => rfl)) (pa_cons (pe_op op_catA (pe_ix ix_seq (pv 1) pe_int (fun _ _ => rfl)) (pe_tup (pa_cons (pe_call G_weighed (hr.mono (by first | decide | omega)) rfl T.d_weighed.m T.d_weighed.kp (b_weighed T.d_weighed.F) .nil pass0 (pa_cons (pe_ix ix_seq (pv 0) pe_int (fun _ _ => rfl)) (pa_cons (pv 1) pa_nil))) pa_nil))) pa_nil)))) pa_nil))))), fun ds Q h => ?_⟩
  obtain ⟨z, f, r, m, hz, rfl, ho, _, hf, hl, rfl⟩ := h
  cases z with
  | tell e =>
    have hl : frLen f + 1 ≤ 100000 := hl
    unfold frLen at hl
    refine q_retD (d := .tup [.str "on", frD { f with told := f.told ++ [worthF f e] }]) ?_ (by unfold stepOn; rfl)
    refine ev_tup (eva_cons ev_str (eva_cons ?_ eva_nil)) (sz5 (Nat.le_of_ble_eq_true rfl))
    refine ev_tup (eva_cons (ev_ix (ev_var rfl) (by decide) rfl) (eva_cons (ev_ix (ev_var rfl) (by decide) rfl) (eva_cons (d := .tup (f.told.map .int ++ [.int (worthF f e)])) ?_ eva_nil))) (sz5 (Nat.le_of_ble_eq_true rfl)) |>.eq (by unfold frD; rw [List.map_append]; rfl)
    refine ev_op (ev_ix (ev_var rfl) (by decide) rfl) (ev_tup (eva_cons ?_ eva_nil) (sz5 (Nat.le_of_ble_eq_true rfl))) (rd_cat (sz5 (by simp; omega)))
    exact ev_call (eva_cons (d := smD e) (ev_ix (ds := [.str "tell", smD e]) (ev_var rfl) (by decide) rfl) (eva_cons (ev_var rfl) eva_nil)) ⟨e, f, m, rfl, ho, hf, rfl⟩ fun _ e => e
  | _ => exact hz.elim
theorem ok_leave_on (T : Txt K w mg) (n : Nat) : FnOk P w K mg base CX0 1 T.d_leave_on.f T.d_leave_on.fd ["step", "frame", "reads"] (spD K (R_on isLeave n)) := by
  refine fn_data T.d_leave_on.F sc_leave_on (fun ds Q h => by obtain ⟨_, _, _, _, _, rfl, _⟩ := h; rfl) fun cdv A outer s H E hr => ?_
  refine ⟨_, (pss_one (ps_ret (pe_tup (pa_cons (pe_ix ix_seq (pv 0) pe_int (fun _ _ => rfl)) (pa_cons (pv 1) pa_nil))))), fun ds Q h => ?_⟩
  obtain ⟨z, f, r, m, hz, rfl, ho, _, hf, hl, rfl⟩ := h
  cases z with
  | out => exact q_retD (d := .tup [.str "out", frD f]) (ev_tup (eva_cons (ev_ix (ds := [.str "out"]) (ev_var rfl) (by decide) rfl) (eva_cons (ev_var rfl) eva_nil)) (sz5 (Nat.le_of_ble_eq_true rfl))) (by unfold stepOn; rfl)
  | retry => exact q_retD (d := .tup [.str "retry", frD f]) (ev_tup (eva_cons (ev_ix (ds := [.str "retry"]) (ev_var rfl) (by decide) rfl) (eva_cons (ev_var rfl) eva_nil)) (sz5 (Nat.le_of_ble_eq_true rfl))) (by unfold stepOn; rfl)
  | _ => exact hz.elim
def R_walk_on (n : Nat) (ds : List D) (Q : D → Prop) : Prop := ∃ (p : Pg) (f : Fr) (r : Ks) (m : Nat), ds = [pgD p, frD f, .dct (kvI r)] ∧ pgOk m p ∧ pgDep p < n ∧ FrOk m f ∧ frLen f + pgSize p ≤ 100000 ∧ Q = fun d => d = .tup [wdD (walkOn r p f).1, frD (walkOn r p f).2]
abbrev WalkOk (P : Program) (w : World) (K : PySem.W.Frag) (mg : Str → Option Value) (base : Heap) (T : Txt K w mg) (n : Nat) : Prop := FnOk P w K mg base CX0 (2 * n + 9) T.d_walk_on.f T.d_walk_on.fd ["program", "frame", "reads"] (spD K (R_walk_on n))
theorem wd_is {x : Wd} {z : Wd} {s : Str} (hz : wdD z = .str s) {Γ : Gm} {i : Nat} (h : Γ[i]? = some (some (wdD x))) : EvB K (tTest (tOp rEq (tVar i) (tC (.str s)))) Γ (decide (x = z)) := by
  cases x with
  | need c =>
    refine (eb_test (ev_op (d1 := .int (c : Int)) (d2 := .str s) (ev_var h) ev_str (rd_eq rfl rfl rfl))).eq ?_
    have : z ≠ .need c := by rintro rfl; cases hz
    rw [decide_eq_false (fun e => nomatch e), decide_eq_false (fun e => this e.symm)]
  | on => refine (ev_isEqS (x := "on") (ev_var h) ev_str).eq ?_; cases z <;> cases hz <;> decide +kernel
  | out => refine (ev_isEqS (x := "out") (ev_var h) ev_str).eq ?_; cases z <;> cases hz <;> decide +kernel
  | retry => refine (ev_isEqS (x := "retry") (ev_var h) ev_str).eq ?_; cases z <;> cases hz <;> decide +kernel
theorem wd_ne {x : Wd} {z : Wd} {s : Str} (hz : wdD z = .str s) {Γ : Gm} {i : Nat} (h : Γ[i]? = some (some (wdD x))) : EvB K (tTest (tOp rNe (tVar i) (tC (.str s)))) Γ (!decide (x = z)) := by
  have ne : ∀ {x s : Str}, Γ[i]? = some (some (.str x)) → EvB K (tTest (tOp rNe (tVar i) (tC (.str s)))) Γ (!decide (x = s)) := fun h => (eb_test (ev_op (ev_var h) ev_str (rd_ne rfl rfl rfl))).eq (by simp)
  cases x with
  | need c =>
    refine (eb_test (ev_op (d1 := .int (c : Int)) (d2 := .str s) (ev_var h) ev_str (rd_ne rfl rfl rfl))).eq ?_
    have : z ≠ .need c := by rintro rfl; cases hz
    rw [decide_eq_false (fun e => nomatch e), decide_eq_false (fun e => this e.symm)]
  | on => refine (ne (x := "on") h).eq ?_; cases z <;> cases hz <;> decide +kernel
  | out => refine (ne (x := "out") h).eq ?_; cases z <;> cases hz <;> decide +kernel
  | retry => refine (ne (x := "retry") h).eq ?_; cases z <;> cases hz <;> decide +kernel
theorem ok_if_on (T : Txt K w mg) {n : Nat} (G_walk_on : WalkOk P w K mg base T n) : FnOk P w K mg base CX0 (2 * n + 9 + 1) T.d_if_on.f T.d_if_on.fd ["step", "frame", "reads"] (spD K (R_on isIf (n + 1))) := by
  have G_weighed := ok_weighed (P := P) (base := base) T
  refine fn_data T.d_if_on.F sc_if_on (fun ds Q h => by obtain ⟨_, _, _, _, _, rfl, _⟩ := h; rfl) fun cdv A outer s H E hr => ?_
  refine ⟨_, (pss_one (ps_ret (pe_call G_walk_on (hr.mono (by first | decide | omega)) rfl T.d_walk_on.m T.d_walk_on.kp (b_walk_on T.d_walk_on.F) .nil pass0 (pa_cons (pe_ifExp (pt_cmpR op_gt (pe_call G_weighed (hr.mono (by first | decide | omega)) rfl T.d_weighed.m T.d_weighed.kp (b_weighed T.d_weighed.F) .nil pass0 (pa_cons (pe_ix ix_seq (pv 0) pe_int (fun _ _ => rfl)) (pa_cons (pv 1) pa_nil))) pe_int (nomark _)) (pe_ix ix_seq (pv 0) pe_int (fun _ _ => rfl)) (pe_ix ix_seq (pv 0) pe_int (fun _ _ => rfl))) (pa_cons (pv 1) (pa_cons (pv 2) pa_nil)))))), fun ds Q h => ?_⟩
  obtain ⟨z, f, r, m, hz, rfl, ho, hd, hf, hl, rfl⟩ := h
  cases z with
  | ifS e p q =>
    obtain ⟨o1, o2, o3⟩ := ho
    simp only [spSize] at hl
    simp only [spDep] at hd
    refine q_retD (d := .tup [wdD (stepOn r (.ifS e p q) f).1, frD (stepOn r (.ifS e p q) f).2]) ?_ rfl
    refine ev_call (eva_cons (d := pgD (if worthF f e > 0 then p else q)) ?_ (eva_cons (ev_var rfl) (eva_cons (ev_var rfl) eva_nil))) ⟨if worthF f e > 0 then p else q, f, r, m, rfl, by split <;> assumption, by split <;> omega, hf, by split <;> omega, rfl⟩ fun x e => ?_
    · refine ev_if (eb_test (ev_op (d1 := .int (worthF f e)) (d2 := .int 0) ?_ ev_int rd_bl)) (fun c => ?_) fun c => ?_
      · exact ev_call (eva_cons (d := smD e) (ev_ix (ds := [.str "if", smD e, .tup (pgL p), .tup (pgL q)]) (ev_var rfl) (by decide) rfl) (eva_cons (ev_var rfl) eva_nil)) ⟨e, f, m, rfl, o1, hf, rfl⟩ fun _ e => e
      · rw [if_pos (of_decide_eq_true c)]
        exact ev_ix (ds := [.str "if", smD e, .tup (pgL p), .tup (pgL q)]) (ev_var rfl) (by decide) rfl
      · rw [if_neg (of_decide_eq_false c)]
        exact ev_ix (ds := [.str "if", smD e, .tup (pgL p), .tup (pgL q)]) (ev_var rfl) (by decide) rfl
    · rw [e]; unfold stepOn; split <;> rfl
  | _ => exact hz.elim
theorem ok_inner_on (T : Txt K w mg) {n : Nat} (G_walk_on : WalkOk P w K mg base T n) : FnOk P w K mg base CX0 (2 * n + 9 + 1) T.d_inner_on.f T.d_inner_on.fd ["step", "frame", "reads"] (spD K (R_on isInner (n + 1))) := by
  refine fn_data T.d_inner_on.F sc_inner_on (fun ds Q h => by obtain ⟨_, _, _, _, _, rfl, _⟩ := h; rfl) fun cdv A outer s H E hr => ?_
  refine ⟨_, (pss_cons (ps_asg (pe_call G_walk_on (hr.mono (by first | decide | omega)) rfl T.d_walk_on.m T.d_walk_on.kp (b_walk_on T.d_walk_on.F) .nil pass0 (pa_cons (pe_ix ix_seq (pv 0) pe_int (fun _ _ => rfl)) (pa_cons (pv 1) (pa_cons (pv 2) pa_nil)))) (pg_tup rfl (pgs_cons (pg_name (i := 3) sc_inner_on.nd rfl (Or.inl rfl)) (pgs_cons (pg_name (i := 4) sc_inner_on.nd rfl (Or.inl rfl)) pgs_nil))))
    (pss_one (ps_ret (pe_ifExp (pt_cmpR op_eq (pv 3) pe_str (nomark _)) (pe_call G_walk_on (hr.mono (by first | decide | omega)) rfl T.d_walk_on.m T.d_walk_on.kp (b_walk_on T.d_walk_on.F) .nil pass0 (pa_cons (pe_ix ix_seq (pv 0) pe_int (fun _ _ => rfl)) (pa_cons (pv 1) (pa_cons (pv 2) pa_nil)))) (pe_tup (pa_cons (pv 3) (pa_cons (pv 4) pa_nil))))))), fun ds Q h => ?_⟩
  obtain ⟨z, f, r, m, hz, rfl, ho, hd, hf, hl, rfl⟩ := h
  cases z with
  | inner p q =>
    obtain ⟨o2, o3⟩ := ho
    simp only [spSize] at hl
    simp only [spDep] at hd
    refine q_seq (q_asg (d := .tup [wdD (walkOn r p f).1, frD (walkOn r p f).2]) ?_ (gd_un2 ?_))
    · exact ev_call (eva_cons (d := pgD p) (ev_ix (ds := [.str "inner", .tup (pgL p), .tup (pgL q)]) (ev_var rfl) (by decide) rfl) (eva_cons (ev_var rfl) (eva_cons (ev_var rfl) eva_nil))) ⟨p, f, r, m, rfl, o2, by omega, hf, by omega, rfl⟩ fun x e => e
    · refine q_retD (d := .tup [wdD (stepOn r (.inner p q) f).1, frD (stepOn r (.inner p q) f).2]) (ev_if (wd_is (z := .out) rfl rfl) (fun c => ?_) fun c => ?_) rfl
      · have c := of_decide_eq_true c
        refine ev_call (eva_cons (d := pgD q) (ev_ix (ds := [.str "inner", .tup (pgL p), .tup (pgL q)]) (ev_var rfl) (by decide) rfl) (eva_cons (ev_var rfl) (eva_cons (ev_var rfl) eva_nil))) ⟨q, f, r, m, rfl, o3, by omega, hf, by omega, rfl⟩ fun x e => ?_
        rw [e]; unfold stepOn; simp only [c, if_true]
      · have c := of_decide_eq_false c
        unfold stepOn; simp only [if_neg c]
        exact ev_tup (eva_cons (ev_var rfl) (eva_cons (ev_var rfl) eva_nil)) (sz5 (Nat.le_of_ble_eq_true rfl))
  | _ => exact hz.elim
theorem ok_either_on (T : Txt K w mg) {n : Nat} (G_walk_on : WalkOk P w K mg base T n) : FnOk P w K mg base CX0 (2 * n + 9 + 1) T.d_either_on.f T.d_either_on.fd ["step", "frame", "reads"] (spD K (R_on isEither (n + 1))) := by
  refine fn_data T.d_either_on.F sc_either_on (fun ds Q h => by obtain ⟨_, _, _, _, _, rfl, _⟩ := h; rfl) fun cdv A outer s H E hr => ?_
  refine ⟨_, (pss_cons (ps_asg (pe_call G_walk_on (hr.mono (by first | decide | omega)) rfl T.d_walk_on.m T.d_walk_on.kp (b_walk_on T.d_walk_on.F) .nil pass0 (pa_cons (pe_ix ix_seq (pv 0) pe_int (fun _ _ => rfl)) (pa_cons (pv 1) (pa_cons (pv 2) pa_nil)))) (pg_tup rfl (pgs_cons (pg_name (i := 3) sc_either_on.nd rfl (Or.inl rfl)) (pgs_cons (pg_name (i := 4) sc_either_on.nd rfl (Or.inl rfl)) pgs_nil))))
    (pss_one (ps_ret (pe_ifExp (pt_cmpR op_eq (pv 3) pe_str (nomark _)) (pe_call G_walk_on (hr.mono (by first | decide | omega)) rfl T.d_walk_on.m T.d_walk_on.kp (b_walk_on T.d_walk_on.F) .nil pass0 (pa_cons (pe_ix ix_seq (pv 0) pe_int (fun _ _ => rfl)) (pa_cons (pv 1) (pa_cons (pv 2) pa_nil)))) (pe_tup (pa_cons (pv 3) (pa_cons (pv 4) pa_nil))))))), fun ds Q h => ?_⟩
  obtain ⟨z, f, r, m, hz, rfl, ho, hd, hf, hl, rfl⟩ := h
  cases z with
  | either p q =>
    obtain ⟨o2, o3⟩ := ho
    simp only [spSize] at hl
    simp only [spDep] at hd
    refine q_seq (q_asg (d := .tup [wdD (walkOn r p f).1, frD (walkOn r p f).2]) ?_ (gd_un2 ?_))
    · exact ev_call (eva_cons (d := pgD p) (ev_ix (ds := [.str "either", .tup (pgL p), .tup (pgL q)]) (ev_var rfl) (by decide) rfl) (eva_cons (ev_var rfl) (eva_cons (ev_var rfl) eva_nil))) ⟨p, f, r, m, rfl, o2, by omega, hf, by omega, rfl⟩ fun x e => e
    · refine q_retD (d := .tup [wdD (stepOn r (.either p q) f).1, frD (stepOn r (.either p q) f).2]) (ev_if (wd_is (z := .retry) rfl rfl) (fun c => ?_) fun c => ?_) rfl
      · have c := of_decide_eq_true c
        refine ev_call (eva_cons (d := pgD q) (ev_ix (ds := [.str "either", .tup (pgL p), .tup (pgL q)]) (ev_var rfl) (by decide) rfl) (eva_cons (ev_var rfl) (eva_cons (ev_var rfl) eva_nil))) ⟨q, f, r, m, rfl, o3, by omega, hf, by omega, rfl⟩ fun x e => ?_
        rw [e]; unfold stepOn; simp only [c, if_true]
      · have c := of_decide_eq_false c
        unfold stepOn; simp only [if_neg c]
        exact ev_tup (eva_cons (ev_var rfl) (eva_cons (ev_var rfl) eva_nil)) (sz5 (Nat.le_of_ble_eq_true rfl))
  | _ => exact hz.elim
inductive S_deed (T : Txt K w mg) (n : Nat) : Addr → Sp → Prop where
  | read : S_deed T n T.d_read_on.f (spD K (R_on isRead n))
  | write : S_deed T n T.d_write_on.f (spD K (R_on isWrite n))
  | letS : S_deed T n T.d_let_on.f (spD K (R_on isLet n))
  | tell : S_deed T n T.d_tell_on.f (spD K (R_on isTell n))
  | ifS : S_deed T n T.d_if_on.f (spD K (R_on isIf n))
  | inner : S_deed T n T.d_inner_on.f (spD K (R_on isInner n))
  | either : S_deed T n T.d_either_on.f (spD K (R_on isEither n))
  | leave : S_deed T n T.d_leave_on.f (spD K (R_on isLeave n))
def stepF (T : Txt K w mg) : Sp' → Addr
  | .read _ _ => T.d_read_on.f | .write _ _ => T.d_write_on.f | .letS _ _ => T.d_let_on.f | .tell _ => T.d_tell_on.f | .ifS _ _ _ => T.d_if_on.f | .inner _ _ => T.d_inner_on.f | .either _ _ => T.d_either_on.f | .out => T.d_leave_on.f | .retry => T.d_leave_on.f
def stepC : Sp' → Sp' → Prop
  | .read _ _ => isRead | .write _ _ => isWrite | .letS _ _ => isLet | .tell _ => isTell | .ifS _ _ _ => isIf | .inner _ _ => isInner | .either _ _ => isEither | .out => isLeave | .retry => isLeave
theorem step_dict {T : Txt K w mg} {z : Sp'} {Γ : Gm} {i : Nat} (h : Γ[i]? = some (some (spD' z))) : Ev K (tOp (rIxD K w) (tC (.ref T.a_STEPS)) (tOp (rIx K) (tVar i) (tC (.int 0)))) Γ (.ref (stepF T z)) := by
  cases z with
  | read s c => exact ev_op ev_ref (ev_ix (ds := [.str "read", _, _]) (ev_var h) (by decide) rfl) (rd_kd T.kS_read fun _ => rfl)
  | write s c => exact ev_op ev_ref (ev_ix (ds := [.str "write", _, _]) (ev_var h) (by decide) rfl) (rd_kd T.kS_write fun _ => rfl)
  | letS s c => exact ev_op ev_ref (ev_ix (ds := [.str "let", _, _]) (ev_var h) (by decide) rfl) (rd_kd T.kS_let fun _ => rfl)
  | tell s => exact ev_op ev_ref (ev_ix (ds := [.str "tell", _]) (ev_var h) (by decide) rfl) (rd_kd T.kS_tell fun _ => rfl)
  | ifS s c d => exact ev_op ev_ref (ev_ix (ds := [.str "if", _, _, _]) (ev_var h) (by decide) rfl) (rd_kd T.kS_if fun _ => rfl)
  | inner s c => exact ev_op ev_ref (ev_ix (ds := [.str "inner", _, _]) (ev_var h) (by decide) rfl) (rd_kd T.kS_inner fun _ => rfl)
  | either s c => exact ev_op ev_ref (ev_ix (ds := [.str "either", _, _]) (ev_var h) (by decide) rfl) (rd_kd T.kS_either fun _ => rfl)
  | out => exact ev_op ev_ref (ev_ix (ds := [.str "out"]) (ev_var h) (by decide) rfl) (rd_kd T.kS_out fun _ => rfl)
  | retry => exact ev_op ev_ref (ev_ix (ds := [.str "retry"]) (ev_var h) (by decide) rfl) (rd_kd T.kS_retry fun _ => rfl)
theorem step_deed {T : Txt K w mg} {n : Nat} {z : Sp'} : S_deed T n (stepF T z) (spD K (R_on (stepC z) n)) ∧ stepC z z := by
  cases z <;> exact ⟨by constructor, trivial⟩
theorem pgL_get : ∀ {p : Pg} {i : Nat} {d : D}, (pgL p)[i]? = some d → ∃ z, p[i]? = some z ∧ d = spD' z
  | [], i, d, h => by simp [pgL] at h
  | s :: p, 0, d, h => ⟨s, rfl, by simpa [pgL] using h.symm⟩
  | s :: p, i + 1, d, h => by
    have : (pgL p)[i]? = some d := by simpa [pgL] using h
    obtain ⟨z, h1, h2⟩ := pgL_get this
    exact ⟨z, by simpa using h1, h2⟩
theorem pgL_len : ∀ {p : Pg}, (pgL p).length = p.length
  | [] => rfl
  | s :: p => by simp [pgL, pgL_len (p := p)]
theorem pg_mem {m : Nat} {z : Sp'} : ∀ {p : Pg}, z ∈ p → pgOk m p → spOk m z ∧ spDep z ≤ pgDep p
  | s :: p, h, ho => by
    simp only [pgDep]
    rcases List.mem_cons.mp h with e | e
    · subst e; exact ⟨ho.1, by omega⟩
    · have := pg_mem e ho.2; exact ⟨this.1, by omega⟩
theorem pgSize_drop {z : Sp'} : ∀ {p : Pg} {i : Nat}, p[i]? = some z → pgSize (p.drop i) = spSize z + pgSize (p.drop (i + 1)) ∧ p.drop i = z :: p.drop (i + 1)
  | [], i, h => by simp at h
  | s :: p, 0, h => by
    have : s = z := by simpa using h
    subst this
    simp [pgSize]
  | s :: p, i + 1, h => by simpa using pgSize_drop (p := p) (i := i) (by simpa using h)
theorem walkOn_cons {r : Ks} {s : Sp'} {t : Pg} {f : Fr} : walkOn r (s :: t) f = if (stepOn r s f).1 = .on then walkOn r t (stepOn r s f).2 else stepOn r s f := by
  conv => lhs; unfold walkOn
theorem ok_walk_on (T : Txt K w mg) : ∀ n : Nat, WalkOk P w K mg base T n
  | 0 => (ok_never (P := P) (base := base) T.d_walk_on.F sc_walk_on (R := R_walk_on 0) fun ds Q h => by obtain ⟨_, _, _, _, _, _, h, _⟩ := h; omega).mono (by decide)
  | n + 1 => by
    have G := ok_walk_on T n
    have G1 := ok_if_on T G
    have G2 := ok_inner_on T G
    have G3 := ok_either_on T G
    have A_deed : ∀ f sp, S_deed T (n + 1) f sp → Held P w K mg base (2 * n + 9 + 1) f sp := fun f sp h => by
      cases h with
      | read => exact ⟨_, _, (ok_read_on T (n + 1)).mono (by omega), T.d_read_on.kp, b_read_on T.d_read_on.F⟩
      | write => exact ⟨_, _, (ok_write_on T (n + 1)).mono (by omega), T.d_write_on.kp, b_write_on T.d_write_on.F⟩
      | letS => exact ⟨_, _, (ok_let_on T (n + 1)).mono (by omega), T.d_let_on.kp, b_let_on T.d_let_on.F⟩
      | tell => exact ⟨_, _, (ok_tell_on T (n + 1)).mono (by omega), T.d_tell_on.kp, b_tell_on T.d_tell_on.F⟩
      | ifS => exact ⟨_, _, G1, T.d_if_on.kp, b_if_on T.d_if_on.F⟩
      | inner => exact ⟨_, _, G2, T.d_inner_on.kp, b_inner_on T.d_inner_on.F⟩
      | either => exact ⟨_, _, G3, T.d_either_on.kp, b_either_on T.d_either_on.F⟩
      | leave => exact ⟨_, _, (ok_leave_on T (n + 1)).mono (by omega), T.d_leave_on.kp, b_leave_on T.d_leave_on.F⟩
    show FnOk P w K mg base CX0 (2 * n + 10 + 1) T.d_walk_on.f T.d_walk_on.fd ["program", "frame", "reads"] (spD K (R_walk_on (n + 1)))
    refine fn_data T.d_walk_on.F sc_walk_on (fun ds Q h => by obtain ⟨_, _, _, _, rfl, _⟩ := h; rfl) fun cdv A outer s H E hr => ?_
    refine ⟨_, (pss_cons (ps_for PassesOwn.never rfl (pi_tup (pv 0)) (pg_name (i := 3) sc_walk_on.nd rfl (Or.inl rfl)) (pss_cons (ps_set (i := 4) sc_walk_on.nd rfl (Or.inl rfl) (pe_ix ix_kdict (pe_globE rfl T.g_STEPS) (pe_ix ix_seq (pv 3) pe_int (fun _ _ => rfl)) (fun _ _ => rfl)))
    (pss_cons (ps_asg (pe_callR (i := 4) A_deed (hr.mono (by first | decide | omega)) rfl (.inl rfl) (pa_cons (pv 3) (pa_cons (pv 1) (pa_cons (pv 2) pa_nil)))) (pg_tup rfl (pgs_cons (pg_name (i := 5) sc_walk_on.nd rfl (Or.inl rfl)) (pgs_cons (pg_name (i := 1) sc_walk_on.nd rfl (Or.inl rfl)) pgs_nil))))
    (pss_one (ps_if (pt_cmpR op_ne (pv 5) (pe_globE rfl T.g_ON) (nomark _)) (pss_one (ps_ret (pe_tup (pa_cons (pv 5) (pa_cons (pv 1) pa_nil))))) pss_nil)))))
    (pss_one (ps_ret (pe_tup (pa_cons (pe_globE rfl T.g_ON) (pa_cons (pv 1) pa_nil)))))), fun ds Q h => ?_⟩
    obtain ⟨p, f0, r, m, rfl, ho, hd, hf0, hl, rfl⟩ := h
    refine q_seq (q_forT (fun i Γ => ∃ f a b c, Γ = [some (pgD p), some (frD f), some (.dct (kvI r)), a, b, c] ∧ FrOk m f ∧ frLen f + pgSize (p.drop i) ≤ 100000 ∧ walkOn r (p.drop i) f = walkOn r p f0) (ds := pgL p) (ev_var rfl) ⟨f0, none, none, none, rfl, hf0, hl, rfl⟩ ?_ ?_)
    · rintro i d Γ hi ⟨f, a, b, c, rfl, hf, hz, hw⟩
      obtain ⟨z, hz1, rfl⟩ := pgL_get hi
      obtain ⟨ok, dep⟩ := pg_mem (m := m) (List.mem_of_getElem? hz1) ho
      obtain ⟨sz, dr⟩ := pgSize_drop hz1
      have sok := stepOn_ok (r := r) ok hf
      have sln := stepOn_len (r := r) (s := z) (f := f)
      refine gd_name (q_seq (q_set (step_dict rfl) (q_seq (q_asgP (evp_callR (P := fun d => d = .tup [wdD (stepOn r z f).1, frD (stepOn r z f).2]) rfl step_deed.1 (eva_cons (ev_var rfl) (eva_cons (ev_var rfl) (eva_cons (ev_var rfl) eva_nil))) ⟨z, f, r, m, step_deed (T := T) (n := n).2, rfl, ok, by omega, hf, by omega, rfl⟩) fun d e => ?_))))
      subst e
      refine gd_un2 ?_
      rw [dr, walkOn_cons] at hw
      refine q_if (wd_ne (z := .on) rfl rfl) (fun c => ?_) fun c => q_next ?_
      · have c : ¬ (stepOn r z f).1 = .on := by simpa using c
        simp only [if_neg c] at hw
        refine q_retD (d := .tup [wdD (stepOn r z f).1, frD (stepOn r z f).2]) (ev_tup (eva_cons (ev_var rfl) (eva_cons (ev_var rfl) eva_nil)) (sz5 (Nat.le_of_ble_eq_true rfl))) ?_
        rw [← hw]
      · have c : (stepOn r z f).1 = .on := by simpa using c
        simp only [c, if_true] at hw
        exact ⟨(stepOn r z f).2, _, _, _, rfl, sok.1, by omega, hw⟩
    · rintro Γ ⟨f, a, b, c, rfl, hf, hz, hw⟩
      rw [pgL_len, List.drop_length] at hw
      refine q_retD (d := .tup [.str "on", frD f]) (ev_tup (eva_cons ev_str (eva_cons (ev_var rfl) eva_nil)) (sz5 (Nat.le_of_ble_eq_true rfl))) ?_
      rw [← hw]
      unfold walkOn
      rfl
def goesD (p : Pg) (rs : K70.RL) : D :=
  match (walkOn (rsK rs) p ⟨[], [], []⟩).1 with
  | .on => .tup [.str "ended", .tup ((walkOn (rsK rs) p ⟨[], [], []⟩).2.told.map .int), .ptup (rsD (sortRL (walkOn (rsK rs) p ⟨[], [], []⟩).2.wr))]
  | .out => .tup [.str "dropped", .ptup [], .ptup []]
  | .retry => .tup [.str "retries", .ptup [], .ptup []]
  | .need c => .tup [.str "reads", .int (c : Int)]
def goesP : K70.Res → D → Prop
  | .ended ws, d => ∃ t : List Int, d = .tup [.str "ended", .tup (t.map .int), .ptup (rsD ws)]
  | .dropped, d => d = .tup [.str "dropped", .ptup [], .ptup []]
  | .retries, d => d = .tup [.str "retries", .ptup [], .ptup []]
  | .reads c, d => d = .tup [.str "reads", .int (c : Int)]
theorem goesD_on {p : Pg} {rs : K70.RL} : goesP (goesOn p rs) (goesD p rs) := by
  unfold goesOn goesD
  cases e : (walkOn (rsK rs) p ⟨[], [], []⟩).1 with
  | on => simp only [e]; exact ⟨_, rfl⟩
  | out => simp only [e]; exact rfl
  | retry => simp only [e]; exact rfl
  | need c => simp only [e]; exact rfl
def R_goes_on (ds : List D) (Q : D → Prop) : Prop := ∃ (p : Pg) (rs : K70.RL) (m : Nat), ds = [pgD p, .ptup (rsD rs)] ∧ pgOk m p ∧ pgDep p ≤ 3 ∧ pgSize p ≤ 10000 ∧ K70.LOk m rs ∧ Q = fun d => d = goesD p rs
theorem ok_goes_on (T : Txt K w mg) : FnOk P w K mg base CX0 18 T.d_goes_on.f T.d_goes_on.fd ["program", "reads"] (spD K R_goes_on) := by
  have G_walk_on := ok_walk_on (P := P) (base := base) T 4
  have G_fresh := ok_fresh (P := P) (base := base) T
  refine fn_data T.d_goes_on.F sc_goes_on (fun ds Q h => by obtain ⟨_, _, _, rfl, _⟩ := h; rfl) fun cdv A outer s H E hr => ?_
  refine ⟨_, (pss_cons (ps_asg (pe_call G_walk_on (hr.mono (by first | decide | omega)) rfl T.d_walk_on.m T.d_walk_on.kp (b_walk_on T.d_walk_on.F) .nil pass0 (pa_cons (pv 0) (pa_cons (pe_call0 G_fresh (hr.mono (by first | decide | omega)) rfl T.d_fresh.m T.d_fresh.kp (b_fresh T.d_fresh.F) .nil pass0) (pa_cons (pe_callTy (call_dictPT rfl) (by rfl) T.z_dict (by decide +kernel) (pa_cons (pv 1) pa_nil)) pa_nil)))) (pg_tup rfl (pgs_cons (pg_name (i := 2) sc_goes_on.nd rfl (Or.inl rfl)) (pgs_cons (pg_tup rfl (pgs_cons (pg_name (i := 3) sc_goes_on.nd rfl (Or.inl rfl)) (pgs_cons (pg_name (i := 4) sc_goes_on.nd rfl (Or.inl rfl)) (pgs_cons (pg_name (i := 5) sc_goes_on.nd rfl (Or.inl rfl)) pgs_nil)))) pgs_nil))))
    (pss_cons (ps_if (pt_cmpR op_eq (pv 2) (pe_globE rfl T.g_ON) (nomark _)) (pss_one (ps_ret (pe_tup (pa_cons pe_str (pa_cons (pv 5) (pa_cons (pe_callTy call_ptuple (by rfl) T.z_tuple (by decide +kernel) (pa_cons (pe_callB (cr_srtI rfl) (by rfl) T.z_sorted (by decide +kernel) (pa_cons (pe_bm0 PySem.F.plainAttrs_dict PySem.F.slot_dict_items PySem.F.type_dict_items mt_itemsK (pv 4)) pa_nil)) pa_nil)) pa_nil)))))) pss_nil)
    (pss_cons (ps_if (pt_cmpR op_eq (pv 2) pe_str (nomark _)) (pss_one (ps_ret (pe_tup (pa_cons pe_str (pa_cons pe_pt0 (pa_cons pe_pt0 pa_nil)))))) pss_nil)
    (pss_one (ps_ret (pe_ifExp (pt_cmpR op_eq (pv 2) pe_str (nomark _)) (pe_tup (pa_cons pe_str (pa_cons pe_pt0 (pa_cons pe_pt0 pa_nil)))) (pe_tup (pa_cons pe_str (pa_cons (pv 2) pa_nil))))))))), fun ds Q h => ?_⟩
  obtain ⟨p, rs, m, rfl, ho, hd, hz, hl, rfl⟩ := h
  have sok := walkOn_ok (r := rsK rs) ho (fr0 (m := m))
  refine q_seq (q_asg (d := .tup [wdD (walkOn (rsK rs) p ⟨[], [], []⟩).1, frD (walkOn (rsK rs) p ⟨[], [], []⟩).2]) ?_ (gd_tup rfl (gds_cons (gd_name (gds_cons (gd_un3 (gds_nil ?_)))))))
  · refine ev_call (eva_cons (ev_var rfl) (eva_cons (d := frD ⟨[], [], []⟩) ((evp_call0 ⟨rfl, rfl⟩).det fun _ e => e) (eva_cons (ev_cb (ds := [.ptup ((rsK rs).map pairK)]) (eva_cons ((ev_var rfl).eq (by rw [rsD_pair])) eva_nil) (rc_dictPT (rsK_nodup hl))) eva_nil))) ⟨p, _, rsK rs, m, rfl, ho, by omega, fr0, ?_, rfl⟩ fun _ e => e
    show 0 + pgSize p ≤ 100000
    omega
  · refine q_seq (q_if (wd_is (z := .on) rfl rfl) (fun c => ?_) fun c => q_next ?_)
    · have c := of_decide_eq_true c
      refine q_retD (d := .tup [.str "ended", .tup ((walkOn (rsK rs) p ⟨[], [], []⟩).2.told.map .int), .ptup (rsD (sortRL (walkOn (rsK rs) p ⟨[], [], []⟩).2.wr))]) ?_ (by unfold goesD; simp only [c])
      refine ev_tup (eva_cons ev_str (eva_cons (ev_var rfl) (eva_cons ?_ eva_nil))) (sz5 (Nat.le_of_ble_eq_true rfl))
      refine (evp_ptI (ty := true) (ps := (walkOn (rsK rs) p ⟨[], [], []⟩).2.wr) (ev_var rfl) fun q hq => ?_).det fun d ⟨ps', so, e⟩ => by rw [e, sorted_wr so sok.1.w1 sok.1.w2]
      obtain ⟨c, _, e⟩ := sok.1.w2 q hq
      rw [e]; trivial
    · have c := of_decide_eq_false c
      refine q_seq (q_if (wd_is (z := .out) rfl rfl) (fun c2 => ?_) fun c2 => q_next ?_)
      · have c2 := of_decide_eq_true c2
        exact q_retD (d := .tup [.str "dropped", .ptup [], .ptup []]) (ev_tup (eva_cons ev_str (eva_cons ev_pt0 (eva_cons ev_pt0 eva_nil))) (sz5 (Nat.le_of_ble_eq_true rfl))) (by unfold goesD; simp only [c2])
      · have c2 := of_decide_eq_false c2
        refine q_retD (d := goesD p rs) (ev_if (wd_is (z := .retry) rfl rfl) (fun c3 => ?_) fun c3 => ?_) rfl
        · have c3 := of_decide_eq_true c3
          unfold goesD; simp only [c3]
          exact ev_tup (eva_cons ev_str (eva_cons ev_pt0 (eva_cons ev_pt0 eva_nil))) (sz5 (Nat.le_of_ble_eq_true rfl))
        · have c3 := of_decide_eq_false c3
          cases e : (walkOn (rsK rs) p ⟨[], [], []⟩).1 with
          | on => exact absurd e c
          | out => exact absurd e c2
          | retry => exact absurd e c3
          | need k =>
            unfold goesD; simp only [e]
            exact ev_tup (eva_cons ev_str (eva_cons (ev_var rfl) eva_nil)) (sz5 (Nat.le_of_ble_eq_true rfl))
end
end Wk
set_option Elab.async false
set_option linter.all false
set_option maxRecDepth 100000
set_option maxHeartbeats 2000000
/-! data that is compared; more rules -/
namespace Wk
open PySem PySem.Spec PyProof.Rows L2
mutual
def pyD : D → PyData
  | .non => .none | .bl b => .bool b | .int i => .int i | .str s => .str s | .tup ds => .tuple (pyL ds) | .ptup ds => .tuple (pyL ds) | .lst ds => .list (pyL ds) | .ref _ => .none | .dct _ => .none
def pyL : List D → List PyData
  | [] => []
  | d :: ds => pyD d :: pyL ds
end
mutual
/-- plain data of depth at most n -/
def gdD : D → Nat → Bool
  | .non, _ => true | .bl _, _ => true | .int _, _ => true | .str s, _ => PyData.canLay0 (.str s)
  | .tup ds, n => match n with | 0 => false | n + 1 => gdL ds n
  | .ptup ds, n => match n with | 0 => false | n + 1 => gdL ds n
  | .lst _, _ => false | .ref _, _ => false | .dct _, _ => false
def gdL : List D → Nat → Bool
  | [], _ => true
  | d :: ds, n => gdD d n && gdL ds n
end
section
variable {K : PySem.W.Frag} {H : Hp}
mutual
theorem gd_nl : ∀ {d : D} {n : Nat}, gdD d n = true → nl d = true
  | .non, _, _ => rfl
  | .bl _, _, _ => rfl
  | .int _, _, _ => rfl
  | .str _, _, _ => rfl
  | .tup ds, 0, h => by simp [gdD] at h
  | .tup ds, n + 1, h => by simp only [gdD] at h; exact gdL_nl h
  | .ptup ds, 0, h => by simp [gdD] at h
  | .ptup ds, n + 1, h => by simp only [gdD] at h; exact gdL_nl h
  | .lst _, _, h => by simp [gdD] at h
  | .ref _, _, h => rfl
  | .dct _, _, h => rfl
theorem gdL_nl : ∀ {ds : List D} {n : Nat}, gdL ds n = true → nlL ds = true
  | [], _, _ => rfl
  | d :: ds, n, h => by
    simp only [gdL, Bool.and_eq_true] at h
    simp only [nlL, Bool.and_eq_true]
    exact ⟨gd_nl h.1, gdL_nl h.2⟩
end
mutual
theorem gd_dp : ∀ {d : D} {n : Nat} {v : V}, gdD d n = true → At K H d v → Dp K H v (pyD d)
  | .non, _, _, _, a => by rw [show _ = V.non from a]; exact .non
  | .bl _, _, _, _, a => by rw [show _ = V.bl _ from a]; exact .bl _
  | .int _, _, _, _, a => by rw [show _ = V.int _ from a]; exact .int _
  | .str _, _, _, _, a => by rw [show _ = V.str _ from a]; exact .str _
  | .tup ds, 0, _, h, _ => by simp [gdD] at h
  | .tup ds, n + 1, _, h, a => by
    simp only [gdD] at h
    obtain ⟨p, xs, e, h1, h2⟩ := a
    rw [e]; exact .tup (.inl h1) (gdL_dp h h2)
  | .ptup ds, 0, _, h, _ => by simp [gdD] at h
  | .ptup ds, n + 1, _, h, a => by
    simp only [gdD] at h
    obtain ⟨p, o, xs, e, h1, _, h2⟩ := a
    rw [e]; exact .tup (.inl (.inr ⟨o, h1⟩)) (gdL_dp h h2)
  | .lst _, _, _, h, _ => by simp [gdD] at h
  | .ref _, _, _, h, _ => by simp [gdD] at h
  | .dct _, _, _, h, _ => by simp [gdD] at h
theorem gdL_dp : ∀ {ds : List D} {n : Nat} {vs : List V}, gdL ds n = true → AtL K H ds vs → DpAll K H vs (pyL ds)
  | [], _, _, _, a => by rw [show _ = [] from a]; exact .nil
  | d :: ds, n, _, h, a => by
    simp only [gdL, Bool.and_eq_true] at h
    obtain ⟨x, r, e, a1, a2⟩ := a
    rw [e]; exact .cons (gd_dp h.1 a1) (gdL_dp h.2 a2)
end
mutual
theorem gd_can : ∀ {d : D} {n : Nat}, gdD d n = true → (pyD d).canLay0 = true ∧ (pyD d).depth ≤ n
  | .non, _, _ => ⟨rfl, Nat.zero_le _⟩
  | .bl _, _, _ => ⟨rfl, Nat.zero_le _⟩
  | .int _, _, _ => ⟨rfl, Nat.zero_le _⟩
  | .str _, _, h => ⟨by simp only [gdD] at h; exact h, Nat.zero_le _⟩
  | .tup ds, 0, h => by simp [gdD] at h
  | .tup ds, n + 1, h => by
    simp only [gdD] at h
    have := gdL_can h
    exact ⟨this.1, by show PyData.depthAll _ + 1 ≤ _; omega⟩
  | .ptup ds, 0, h => by simp [gdD] at h
  | .ptup ds, n + 1, h => by
    simp only [gdD] at h
    have := gdL_can h
    exact ⟨this.1, by show PyData.depthAll _ + 1 ≤ _; omega⟩
  | .lst _, _, h => by simp [gdD] at h
  | .ref _, _, h => by simp [gdD] at h
  | .dct _, _, h => by simp [gdD] at h
theorem gdL_can : ∀ {ds : List D} {n : Nat}, gdL ds n = true → PyData.canLayAll0 (pyL ds) = true ∧ PyData.depthAll (pyL ds) ≤ n
  | [], _, _ => ⟨rfl, Nat.zero_le _⟩
  | d :: ds, n, h => by
    simp only [gdL, Bool.and_eq_true] at h
    have h1 := gd_can h.1
    have h2 := gdL_can h.2
    refine ⟨by show (PyData.canLay0 _ && PyData.canLayAll0 _) = true; rw [h1.1, h2.1]; rfl, ?_⟩
    show max _ _ ≤ n
    omega
end
theorem gdL_of {α : Type} {f : α → D} {l : List α} {n : Nat} (h : ∀ a ∈ l, gdD (f a) n = true) : gdL (l.map f) n = true := by
  induction l with
  | nil => rfl
  | cons a l ih => simp only [List.map_cons, gdL, Bool.and_eq_true]; exact ⟨h a List.mem_cons_self, ih fun x hx => h x (List.mem_cons_of_mem _ hx)⟩
theorem gdL_mem {ds : List D} {n : Nat} (h : ∀ a ∈ ds, gdD a n = true) : gdL ds n = true := by
  have := gdL_of (f := id) (l := ds) h
  rwa [List.map_id] at this
theorem gd_told {t : List Int} {n : Nat} : gdD (.tup (t.map .int)) (n + 1) = true := by simp only [gdD]; exact gdL_of fun _ _ => rfl
theorem gd_rs {l : K70.RL} {n : Nat} : gdD (.ptup (rsD l)) (n + 2) = true := by simp only [gdD]; exact gdL_of fun _ _ => rfl
theorem gd_optN {o : Option Nat} {n : Nat} : gdD (optN o) n = true := by cases o <;> rfl
theorem gd_optI {o : Option Int} {n : Nat} : gdD (optI o) n = true := by cases o <;> rfl
theorem sh_list {ds : List D} {n : Nat} (h : gdL ds n = true) (hn : n ≤ 60) : SeqAt.shaped (.list (pyL ds)) = true := by
  have := gdL_can h
  show (PyData.canLayAll0 (pyL ds) && decide (PyData.depthAll (pyL ds) + 1 ≤ 64)) = true
  rw [this.1, decide_eq_true (by omega)]; rfl
theorem sh_tup {ds : List D} {n : Nat} (h : gdL ds n = true) (hn : n ≤ 60) : SeqAt.shaped (.tuple (pyL ds)) = true := by
  have := gdL_can h
  show (PyData.canLayAll0 (pyL ds) && decide (PyData.depthAll (pyL ds) + 1 ≤ 64)) = true
  rw [this.1, decide_eq_true (by omega)]; rfl
theorem eqv_nil {ds : List D} : PyData.eqvAll (pyL ds) (pyL []) = ds.isEmpty := by
  cases ds <;> simp [pyL, PyData.eqvAll]
theorem rd_eqL {ds : List D} {n : Nat} (h : gdL ds n = true) (hn : n ≤ 60) : RD K (rEqD K) (.lst ds) (.lst []) (.bl ds.isEmpty) := fun x y H a1 a2 Q q => by
  obtain ⟨p, xs, rfl, h1, h2⟩ := a1
  obtain ⟨p', xs', rfl, h1', h2'⟩ := a2
  refine ⟨.list (pyL ds), .list (pyL []), .lst h1 (gdL_dp h h2), .lst h1' (gdL_dp (n := 0) rfl h2'), sh_list h hn, sh_list (ds := []) (n := 0) rfl (by omega), ?_⟩
  rw [show PyData.eqv (.list (pyL ds)) (.list (pyL [])) = ds.isEmpty from eqv_nil]
  exact q _ H (Same.refl H) rfl
theorem rd_neL {ds : List D} {n : Nat} (h : gdL ds n = true) (hn : n ≤ 60) : RD K (rNeD K) (.lst ds) (.lst []) (.bl (!ds.isEmpty)) := fun x y H a1 a2 Q q => by
  obtain ⟨p, xs, rfl, h1, h2⟩ := a1
  obtain ⟨p', xs', rfl, h1', h2'⟩ := a2
  refine ⟨.list (pyL ds), .list (pyL []), .lst h1 (gdL_dp h h2), .lst h1' (gdL_dp (n := 0) rfl h2'), sh_list h hn, sh_list (ds := []) (n := 0) rfl (by omega), ?_⟩
  rw [show PyData.eqv (.list (pyL ds)) (.list (pyL [])) = ds.isEmpty from eqv_nil]
  exact q _ H (Same.refl H) rfl
theorem rd_eqP {ds : List D} {n : Nat} (h : gdL ds n = true) (hn : n ≤ 60) : RD K (rEqD K) (.ptup ds) (.ptup []) (.bl ds.isEmpty) := fun x y H a1 a2 Q q => by
  obtain ⟨p, xs, rfl, h1, h2⟩ := At.pt a1
  obtain ⟨p', xs', rfl, h1', h2'⟩ := At.pt a2
  refine ⟨.tuple (pyL ds), .tuple (pyL []), .tup (.inl h1) (gdL_dp h h2), .tup (.inl h1') (gdL_dp (n := 0) rfl h2'), sh_tup h hn, sh_tup (ds := []) (n := 0) rfl (by omega), ?_⟩
  rw [show PyData.eqv (.tuple (pyL ds)) (.tuple (pyL [])) = ds.isEmpty from eqv_nil]
  exact q _ H (Same.refl H) rfl
theorem rd_neP {ds : List D} {n : Nat} (h : gdL ds n = true) (hn : n ≤ 60) : RD K (rNeD K) (.ptup ds) (.ptup []) (.bl (!ds.isEmpty)) := fun x y H a1 a2 Q q => by
  obtain ⟨p, xs, rfl, h1, h2⟩ := At.pt a1
  obtain ⟨p', xs', rfl, h1', h2'⟩ := At.pt a2
  refine ⟨.tuple (pyL ds), .tuple (pyL []), .tup (.inl h1) (gdL_dp h h2), .tup (.inl h1') (gdL_dp (n := 0) rfl h2'), sh_tup h hn, sh_tup (ds := []) (n := 0) rfl (by omega), ?_⟩
  rw [show PyData.eqv (.tuple (pyL ds)) (.tuple (pyL [])) = ds.isEmpty from eqv_nil]
  exact q _ H (Same.refl H) rfl
theorem rs_gd {l : K70.RL} : gdL (rsD l) 2 = true := gdL_of fun _ _ => rfl
end
section
variable {K : PySem.W.Frag} {Γ : Gm} {ta tb tc te tl : TE} {d d1 d2 d3 : D} {ds : List D} {b c : Bool} {nx : Gm → Prop} {rt : D → Prop}
theorem ev_andV (h1 : Ev K ta Γ (.bl b)) (h2 : b = true → Ev K tb Γ (.bl c)) : Ev K (tAndV ta tb) Γ (.bl (b && c)) := fun σ H sa Q q => h1 σ H sa _ fun v H1 e a => ⟨b, a, by
  cases b with
  | true => exact iteT (h2 rfl σ H1 (sa.mono e) Q fun v H2 e2 a2 => q v H2 (e.trans e2) a2)
  | false => exact iteF (q _ H1 e rfl)⟩
theorem ev_notV (h : Ev K ta Γ (.bl b)) : Ev K (tNotV ta) Γ (.bl (!b)) := fun σ H sa Q q => h σ H sa _ fun v H1 e a => ⟨b, a, q _ H1 e rfl⟩
theorem ev_chain {r r' : R2} {k k' : Bool} (ha : Ev K ta Γ d1) (hb : Ev K tb Γ d2) (hr : RD K r d1 d2 (.bl k)) (hc : k = true → Ev K tc Γ d3 ∧ RD K r' d2 d3 (.bl k')) : Ev K (tChain r r' ta tb tc) Γ (.bl (k && k')) := fun σ H sa Q q =>
  ha σ H sa _ fun x H1 e1 a1 => hb σ H1 (sa.mono e1) _ fun y H2 e2 a2 => hr x y H2 (At.mono e2 a1) a2 _ fun z H3 e3 a3 => ⟨k, a3, by
    cases k with
    | true =>
      refine iteT ?_
      obtain ⟨h3, hr'⟩ := hc rfl
      exact h3 σ H3 (sa.mono ((e1.trans e2).trans e3)) _ fun w' H4 e4 a4 => hr' y w' H4 (At.mono (e3.trans e4) a2) a4 Q fun v H5 e5 a5 => q v H5 ((((e1.trans e2).trans e3).trans e4).trans e5) a5
    | false => exact iteF (q _ H3 ((e1.trans e2).trans e3) rfl)⟩
theorem ev_isi {i : Int} {n : String} {b : Bool} (h : Ev K te Γ (.int i)) (hk : PySem.W.kitOne K (.type "int") (.type n) = some b) : Ev K (tCB (rIsi K) (tCons te (tCons (tC (.ty n)) tNil))) Γ (.bl b) := fun σ H sa Q q =>
  h σ H sa _ fun v H1 e a => ⟨v, .ty n, .type "int", .type n, b, rfl, .ty n, by rw [show v = .int i from a]; exact .base (.int i), hk, q _ H1 e rfl⟩
theorem eb_notN (h : Ev K te Γ d) : EvB K (tTest (tOp (fun x y H Q => y = .non ∧ Q (.bl (!decide (x = .non))) H) te (tC .non))) Γ (!isNon d) := eb_test (ev_op h ev_non rd_notN)
theorem eb_isN (h : Ev K te Γ d) : EvB K (tTest (tOp (fun x y H Q => y = .non ∧ Q (.bl (decide (x = .non))) H) te (tC .non))) Γ (isNon d) := eb_test (ev_op h ev_non rd_isN)
theorem q_nf {Γ' : Gm} {t : TS} (e : Γ = Γ') (h : QS K t Γ' nx rt) : QS K t Γ nx rt := e ▸ h
theorem ev_nf {Γ' : Gm} (e : Γ = Γ') (h : Ev K te Γ' d) : Ev K te Γ d := e ▸ h
theorem q_expr {t : TE} {P : D → Prop} (h : EvP K t Γ P) (hn : nx Γ) : QS K (tDrop t) Γ nx rt := fun σ H E sa n r =>
  h σ H sa _ fun v H1 d p e a => n Γ σ H1 hn e (sa.mono e)
/-- for over a list that no turn changes -/
theorem q_forL {tb : TS} {g : TG} (I : Nat → Gm → Prop) (hl : Ev K tl Γ (.lst ds)) (h0 : I 0 Γ)
    (hs : ∀ i d Γ, ds[i]? = some d → I i Γ → GD K g d Γ (fun Γ' => QS K tb Γ' (I (i + 1)) rt)) (hd : ∀ Γ, I ds.length Γ → nx Γ) : QS K (tFor (iList K tl) g tb) Γ nx rt := fun σ H E sa n r =>
  hl σ H sa _ fun x H1 e1 a1 => by
    obtain ⟨p, xs, ex, hq, al⟩ := a1
    have hlen := AtL.len al
    refine ⟨p, ex, ⟨xs, hq⟩, fun i m σ' H' => m = ds.length - i ∧ i ≤ ds.length ∧ Same H1 H' ∧ ∃ Γ', I i Γ' ∧ SA K H' σ' Γ', ⟨ds.length, by simp, Nat.zero_le _, Same.refl _, Γ, h0, sa.mono e1⟩, ?_⟩
    rintro i m σ' H' ⟨rfl, hi, e2, Γ', hI, sa'⟩
    have q' := e2.seq hq
    have al' := AtL.mono e2 al
    by_cases hlt : i < ds.length
    · have hxi : xs[i]? = some xs[i] := List.getElem?_eq_getElem (by omega)
      refine .inr ⟨⟨xs, xs[i], q', hxi⟩, fun σ2 H2 => Same H1 H2 ∧ ∃ Γ2, I (i + 1) Γ2 ∧ SA K H2 σ2 Γ2, fun σ2 H2 ⟨e3, Γ2, i2, s2⟩ => ⟨ds.length - (i + 1), by omega, rfl, hlt, e3, Γ2, i2, s2⟩, fun x H3 y => ?_⟩
      obtain ⟨eH, y⟩ := y
      subst eH
      have y := y xs q'
      obtain ⟨d, hd', ad⟩ := AtL.back al' y
      refine hs i d Γ' hd' hI x σ' H3 _ sa' ad fun Γ2 σ2 H2 q2 e3 sa2 => ?_
      refine q2 σ2 H2 _ sa2 (fun Γ3 σ3 H4 i3 e4 sa3 => ⟨(e2.trans e3).trans e4, Γ3, i3, sa3⟩) fun d v H4 a e4 c => r d v H4 a (((e1.trans e2).trans e3).trans e4) c
    · have e : i = ds.length := by omega
      subst e
      exact .inl ⟨⟨xs, q', by omega⟩, n Γ' σ' H' (hd Γ' hI) (e1.trans e2) sa'⟩
theorem range_get {α : Type} {l : List α} : (List.range l.length).map (fun i => l[i]?) = l.map some := by
  refine List.ext_getElem? fun j => ?_
  by_cases hj : j < l.length
  · rw [List.getElem?_map, List.getElem?_range hj, List.getElem?_map, List.getElem?_eq_getElem hj]
    show some (l[j]?) = some (some l[j])
    rw [List.getElem?_eq_getElem hj]
  · rw [List.getElem?_eq_none (by simp; omega), List.getElem?_eq_none (by simp; omega)]
theorem ev_lcM {α : Type} {f : α → D} {l : List α} {g : TG} {tt : TT} {vs : List Nat} (out : α → Option D) (hl : Ev K tl Γ (.tup (l.map f))) (hz : l.length ≤ 100000) (hs : ∀ a ∈ l, LcTurn K vs g tt te Γ (f a) (out a)) : Ev K (tLc (iTup K tl) g tt te vs) Γ (.lst (l.filterMap out)) := by
  have e1 : l.map f = (List.range l.length).map fun i => ((l[i]?).map f).getD .non := by
    have := congrArg (List.map fun o : Option α => (o.map f).getD .non) (range_get (l := l))
    rw [List.map_map, List.map_map] at this
    exact this.symm
  have e2 : l.filterMap out = (List.range l.length).filterMap fun i => (l[i]?).bind out := by
    have := congrArg (List.filterMap fun o : Option α => o.bind out) (range_get (l := l))
    rw [List.filterMap_map, List.filterMap_map] at this
    exact this.symm
  rw [e1] at hl
  rw [e2]
  refine ev_lcTi _ hl hz fun i hi => ?_
  rw [List.getElem?_eq_getElem hi]
  exact hs _ (List.getElem_mem hi)
theorem rd_gt {i j : Int} : RD K (rI0 fun i j => V.bl (decide (j < i))) (.int i) (.int j) (.bl (decide (j < i))) := rd_bl (g := fun i j => decide (j < i))
end
end Wk
set_option Elab.async false
set_option linter.all false
set_option maxRecDepth 100000
set_option maxHeartbeats 2000000
/-! the deeds -/
namespace Wk
open PySem PySem.Spec PyProof.Rows L2
theorem c_stamp : PyData.canLay0 (.str "stamp") = true := by decide +kernel
theorem c_held : PyData.canLay0 (.str "held") = true := by decide +kernel
theorem c_ended : PyData.canLay0 (.str "ended") = true := by decide +kernel
section
variable {P : Program} {w : World} {K : PySem.W.Frag} {mg : Str → Option Value} {base : Heap}
local macro_rules | `(tactic| walk_at "ev") => `(tactic| first
  | exact ev_int | exact ev_str | exact ev_non | exact ev_bl | exact ev_pt0 | exact ev_ref | exact ev_var rfl
  | (refine ev_tup ?_ (sz5 (Nat.le_of_ble_eq_true rfl)); walk_at "eva")
  | (refine ev_op (d1 := .tup _) (r := rIx _) ?_ ?_ (rd_ixT' ?_ ?_); walk_at "ev"; walk_at "ev"; (first | decide | omega); (first | rfl | assumption))
  | (refine ev_op ?_ ?_ rd_int; walk_at "ev"; walk_at "ev")
  | assumption)
local macro_rules | `(tactic| walk_at "gd") => `(tactic| simp only [gdL, gdD, gd_optN, gd_optI, gd_told, gd_rs, c_stamp, c_held, c_ended, Bool.and_true, Bool.true_and, Bool.and_self])
local macro_rules | `(tactic| walk_at "nf") => `(tactic| refine q_nf (by simp only [List.map_cons, List.map_nil, List.cons_append, List.nil_append, List.length_cons, List.length_nil, List.replicate_succ, List.replicate_zero, List.set_cons_succ, List.set_cons_zero, Nat.reduceAdd, Nat.reduceSub, N_is_number, N_need_hand, N_gives, N_rests, N_begins, N_reads_cell, N_retries, N_walks, N_locks_next, N_written_by, N_sure_by, N_locks, N_checks, N_woken_by, N_backs, N_step]; exact rfl) ?_)
local macro_rules | `(tactic| walk_at "eva") => `(tactic| first | exact eva_nil | (refine eva_cons ?_ ?_; walk_at "ev"; walk_at "eva"))
theorem stD_congr {cw : Crew} {m : Nat} {s s' : K70.S} (h1 : s.clock = s'.clock) (h2 : s.tickets = s'.tickets) (h3 : ∀ c, c < m → s.cells c = s'.cells c) (h4 : ∀ i, i < cw.length → s.rows i = s'.rows i) : stD cw m s = stD cw m s' := by
  have e1 : cellsL m s.cells = cellsL m s'.cells := List.map_congr_left fun c hc => by rw [h3 c (List.mem_range.mp hc)]
  have e2 : rowsL cw.length s.rows = rowsL cw.length s'.rows := List.map_congr_left fun i hi => by rw [h4 i (List.mem_range.mp hi)]
  unfold stD
  rw [h1, h2, e1, e2]
structure Cx' (cw : Crew) (m : Nat) (s : K70.S) : Prop where
  sz : Sz cw m
  ok : CrewOk m cw
  inv : K70.Inv (crewP cw m) s
/-- what a deed answers: the state, and an event that tells whether it was more than waiting -/
def ToldR (cw : Crew) (m : Nat) (h : Nat) (r : K70.S × Bool) (d : D) : Prop :=
  ∃ (z : Str) (rest : List D), d = .tup [stD cw m r.1, .tup (.int (h : Int) :: .str z :: rest)] ∧ (r.2 = true ↔ ¬ (z = "waits" ∨ z = "rests")) ∧ PyData.canLay0 (.str z) = true ∧ gdL rest 8 = true
def R_deed (c : K70.Row → Prop) (ds : List D) (Q : D → Prop) : Prop := ∃ (cw : Crew) (m : Nat) (s : K70.S) (h : Nat), ds = [stD cw m s, .int (h : Int)] ∧ h < cw.length ∧ Cx' cw m s ∧ c (s.rows h) ∧ Q = ToldR cw m h (K70.step (crewP cw m) s h)
theorem told_yes {cw : Crew} {m h : Nat} {r : K70.S × Bool} {st : K70.S} {z : Str} {rest : List D} (e : r = (st, true)) (hz : ¬ (z = "waits" ∨ z = "rests")) (hc : PyData.canLay0 (.str z) = true) (hr : gdL rest 8 = true) : ToldR cw m h r (.tup [stD cw m st, .tup (.int (h : Int) :: .str z :: rest)]) := by
  subst e; exact ⟨z, rest, rfl, ⟨fun _ => hz, fun _ => rfl⟩, hc, hr⟩
theorem told_no {cw : Crew} {m h : Nat} {r : K70.S × Bool} {st : K70.S} {z : Str} {rest : List D} (e : r = (st, false)) (hz : z = "waits" ∨ z = "rests") (hc : PyData.canLay0 (.str z) = true) (hr : gdL rest 8 = true) : ToldR cw m h r (.tup [stD cw m st, .tup (.int (h : Int) :: .str z :: rest)]) := by
  subst e; exact ⟨z, rest, rfl, ⟨fun q => (by cases q), fun q => (q hz).elim⟩, hc, hr⟩
def R_is_number (ds : List D) (Q : D → Prop) : Prop := ∃ i : Int, ds = [.int i] ∧ Q = fun d => d = .bl true
theorem ok_is_number (T : Txt K w mg) : FnOk P w K mg base CX0 1 T.d_is_number.f T.d_is_number.fd ["thing"] (spD K R_is_number) := by
  refine fn_data T.d_is_number.F sc_is_number (fun ds Q h => by obtain ⟨_, rfl, _⟩ := h; rfl) fun cdv A outer s H E hr => ?_
  refine ⟨_, (pss_one (ps_ret (pe_and (pe_callB call_isi (by rfl) T.z_isinstance (by decide +kernel) (pa_cons (pv 0) (pa_cons (pe_bltn (v := .ty "int") (by rfl) T.z_int (by decide +kernel) rfl) pa_nil))) (pe_one (pe_not (pe_callB call_isi (by rfl) T.z_isinstance (by decide +kernel) (pa_cons (pv 0) (pa_cons (pe_bltn (v := .ty "bool") (by rfl) T.z_bool (by decide +kernel) rfl) pa_nil)))))))), fun ds Q h => ?_⟩
  obtain ⟨i, rfl, rfl⟩ := h
  exact q_retD (d := .bl true) (ev_andV (b := true) (c := true) (ev_isi (i := i) (ev_var rfl) (by rfl)) fun _ => ev_notV (b := false) (ev_isi (i := i) (ev_var rfl) (by rfl))) rfl
def R_need_hand (ds : List D) (Q : D → Prop) : Prop := ∃ (cw : Crew) (m : Nat) (s : K70.S) (h : Nat), ds = [stD cw m s, .int (h : Int)] ∧ h < cw.length ∧ Q = fun d => d = .non
theorem ok_need_hand (T : Txt K w mg) : FnOk P w K mg base CX0 2 T.d_need_hand.f T.d_need_hand.fd ["state", "hand"] (spD K R_need_hand) := by
  have G_is_number := ok_is_number (P := P) (base := base) T
  refine fn_data T.d_need_hand.F sc_need_hand (fun ds Q h => by obtain ⟨_, _, _, _, rfl, _⟩ := h; rfl) fun cdv A outer s H E hr => ?_
  refine ⟨_, (pss_one (ps_if (PW.pt (pw_or (pt_not (pt_val (pe_call G_is_number (hr.mono (by first | decide | omega)) rfl T.d_is_number.m T.d_is_number.kp (b_is_number T.d_is_number.F) .nil pass0 (pa_cons (pv 1) pa_nil)))) (pw_or1 (pt_not (pt_chain op_le op_lt pe_int (pv 1) (pe_callB call_len_seq (by rfl) T.z_len PySem.boot_len (pa_cons (pe_ix ix_seq (pv 0) pe_int (fun _ _ => rfl)) pa_nil))))))) (pss_one ps_never) pss_nil)), fun ds Q h => ?_⟩
  obtain ⟨cw, m, st, h, rfl, hh, rfl⟩ := h
  refine q_if (b := false) ((eb_or (b := false) (c := false) ((eb_not (b := true) (eb_B (ev_call (eva_cons (ev_var rfl) eva_nil) ⟨_, rfl, rfl⟩ fun _ e => e)))) fun _ => ?_)) (fun c => by cases c) fun _ => q_next rfl
  refine eb_not (b := true) (eb_test ((ev_chain (k := decide ((0 : Int) ≤ h)) (k' := decide ((h : Int) < ((handsL cw).length : Int))) ev_int (ev_var rfl) rd_bl fun _ => ⟨ev_cb (eva_cons (ev_ix (ev_var rfl) (by decide) rfl) eva_nil) rc_lenT, rd_bl⟩).eq ?_))
  rw [decide_eq_true (by omega), decide_eq_true (by unfold handsL; rw [List.length_map]; omega)]
  rfl
def R_gives (ds : List D) (Q : D → Prop) : Prop := ∃ (cw : Crew) (m : Nat) (s : K70.S) (h : Nat) (y : D), ds = [stD cw m s, .int (h : Int), y] ∧ h < cw.length ∧ Sz cw m ∧ gdD y 8 = true ∧ Q = ToldR cw m h (K70.giveUp (crewP cw m) s h, true)
theorem ok_gives (T : Txt K w mg) : FnOk P w K mg base CX0 3 T.d_gives.f T.d_gives.fd ["state", "hand", "why"] (spD K R_gives) := by
  have G_given_up := ok_given_up (P := P) (base := base) T
  refine fn_data T.d_gives.F sc_gives (fun ds Q h => by obtain ⟨_, _, _, _, _, rfl, _⟩ := h; rfl) fun cdv A outer s H E hr => ?_
  refine ⟨_, (pss_one (ps_ret (pe_tup (pa_cons (pe_call G_given_up (hr.mono (by first | decide | omega)) rfl T.d_given_up.m T.d_given_up.kp (b_given_up T.d_given_up.F) .nil pass0 (pa_cons (pv 0) (pa_cons (pv 1) pa_nil))) (pa_cons (pe_tup (pa_cons (pv 1) (pa_cons pe_str (pa_cons (pv 2) pa_nil)))) pa_nil))))), fun ds Q h => ?_⟩
  obtain ⟨cw, m, st, h, y, rfl, hh, sz, gy, rfl⟩ := h
  refine q_retD (ev_tup (eva_cons (d := stD cw m (K70.giveUp (crewP cw m) st h)) (ev_call (eva_cons (ev_var rfl) (eva_cons (ev_var rfl) eva_nil)) ⟨cw, m, st, h, rfl, hh, sz, rfl⟩ fun _ e => e) (eva_cons (ev_tup (eva_cons (ev_var rfl) (eva_cons ev_str (eva_cons (ev_var rfl) eva_nil))) (sz5 (Nat.le_of_ble_eq_true rfl))) eva_nil)) (sz5 (Nat.le_of_ble_eq_true rfl))) (told_yes rfl (by decide +kernel) (by decide +kernel) (by simp [gdL, gy]))
def isRest : K70.Row → Prop | .through _ => True | .sleeps _ _ _ _ => True | _ => False
theorem gd_ph {r : K70.Row} : gdL [.str (phS r)] 8 = true := by
  have : ∀ z ∈ (["new", "walks", "locks", "checks", "backs", "sleeps", "through"] : List Str), gdL [.str z] 8 = true := by decide +kernel
  exact this _ (by cases r <;> simp [phS])
theorem ok_rests (T : Txt K w mg) : FnOk P w K mg base CX0 1 T.d_rests.f T.d_rests.fd ["state", "hand"] (spD K (R_deed isRest)) := by
  refine fn_data T.d_rests.F sc_rests (fun ds Q h => by obtain ⟨_, _, _, _, rfl, _⟩ := h; rfl) fun cdv A outer s H E hr => ?_
  refine ⟨_, (pss_one (ps_ret (pe_tup (pa_cons (pv 0) (pa_cons (pe_tup (pa_cons (pv 1) (pa_cons pe_str (pa_cons (pe_ix ix_seq (pe_ix ix_seq (pe_ix ix_seq (pv 0) pe_int (fun _ _ => rfl)) (pv 1) (fun _ _ => rfl)) pe_int (fun _ _ => rfl)) pa_nil)))) pa_nil))))), fun ds Q h => ?_⟩
  obtain ⟨cw, m, st, h, rfl, hh, cx, hc, rfl⟩ := h
  have e : K70.step (crewP cw m) st h = (st, false) := by
    unfold K70.step
    cases er : st.rows h <;> rw [er] at hc <;> first | rfl | exact hc.elim
  refine q_retD (ev_tup (eva_cons (ev_var rfl) (eva_cons (ev_tup (eva_cons (ev_var rfl) (eva_cons ev_str (eva_cons (d := .str (phS (st.rows h))) (ev_ix (ev_row rfl rfl hh) (by decide) rfl) eva_nil))) (sz5 (Nat.le_of_ble_eq_true rfl))) eva_nil)) (sz5 (Nat.le_of_ble_eq_true rfl))) (told_no e (by decide +kernel) (by decide +kernel) gd_ph)
def isNew : K70.Row → Prop | .new _ _ => True | _ => False
theorem ev_told {Γ : Gm} {t1 : TE} {t2 : TA} {X : D} {ds : List D} (h1 : Ev K t1 Γ X) (h2 : EvA K t2 Γ ds) (hl : ds.length ≤ 100000) : Ev K (tTup (tCons t1 (tCons (tTup t2) tNil))) Γ (.tup [X, .tup ds]) :=
  ev_tup (eva_cons h1 (eva_cons (ev_tup h2 (sz5 hl)) eva_nil)) (sz5 (Nat.le_of_ble_eq_true rfl))
theorem ok_begins (T : Txt K w mg) : FnOk P w K mg base CX0 2 T.d_begins.f T.d_begins.fd ["state", "hand"] (spD K (R_deed isNew)) := by
  have G_with_row := ok_with_row (P := P) (base := base) T
  refine fn_data T.d_begins.F sc_begins (fun ds Q h => by obtain ⟨_, _, _, _, rfl, _⟩ := h; rfl) fun cdv A outer s H E hr => ?_
  refine ⟨_, (pss_cons (ps_asg (pv 0) (pg_tup rfl (pgs_cons (pg_name (i := 2) sc_begins.nd rfl (Or.inl rfl)) (pgs_cons (pg_name (i := 3) sc_begins.nd rfl (Or.inl rfl)) (pgs_cons (pg_name (i := 4) sc_begins.nd rfl (Or.inl rfl)) (pgs_cons (pg_name (i := 5) sc_begins.nd rfl (Or.inl rfl)) (pgs_cons (pg_name (i := 6) sc_begins.nd rfl (Or.inl rfl)) pgs_nil)))))))
    (pss_cons (ps_asg (pe_ix ix_seq (pv 6) (pv 1) (fun _ _ => rfl)) (pg_star rfl (pgs_cons (pg_name (i := 7) sc_begins.nd rfl (Or.inl rfl)) (pgs_cons (pg_name (i := 8) sc_begins.nd rfl (Or.inl rfl)) (pgs_cons (pg_name (i := 9) sc_begins.nd rfl (Or.inl rfl)) (pgs_star (pg_name (i := 10) sc_begins.nd rfl (Or.inl rfl)) pgs_nil))))))
    (pss_cons (ps_if (pt_cmpR op_isN (pv 9) pe_non (nomark _)) (pss_cons (ps_set (i := 9) sc_begins.nd rfl (Or.inl rfl) (pv 4))
    (pss_one (ps_set (i := 4) sc_begins.nd rfl (Or.inl rfl) (pe_op op_add (pv 4) pe_int)))) pss_nil)
    (pss_cons (ps_set (i := 11) sc_begins.nd rfl (Or.inl rfl) (pe_tup (pa_cons (pv 7) (pa_cons pe_str (pa_cons (pv 9) (pa_cons (pv 3) (pa_cons pe_non (pa_cons pe_pt0 (pa_cons pe_int pa_nil)))))))))
    (pss_one (ps_ret (pe_tup (pa_cons (pe_call G_with_row (hr.mono (by first | decide | omega)) rfl T.d_with_row.m T.d_with_row.kp (b_with_row T.d_with_row.F) .nil pass0 (pa_cons (pe_tup (pa_cons (pv 2) (pa_cons (pv 3) (pa_cons (pv 4) (pa_cons (pv 5) (pa_cons (pv 6) pa_nil)))))) (pa_cons (pv 1) (pa_cons (pv 11) pa_nil)))) (pa_cons (pe_tup (pa_cons (pv 1) (pa_cons pe_str (pa_cons (pv 7) (pa_cons (pv 9) (pa_cons (pv 3) pa_nil)))))) pa_nil))))))))), fun ds Q h => ?_⟩
  obtain ⟨cw, m, st, h, rfl, hh, cx, hc, rfl⟩ := h
  walk_at "nf"
  cases er : st.rows h with
  | new k tk =>
    refine q_seq (q_asg (d := stD cw m st) (ev_var rfl) (gd_un5 ?_))
    walk_at "nf"
    refine q_seq (q_asg (d := .tup [.int (k : Int), .str "new", optI tk, .non, .non, .ptup [], .int 0]) ((ev_ixv (d := rowD (st.rows h)) (ev_var rfl) rfl (rowsL_get hh)).eq (by rw [er]; rfl)) (gd_star3 ?_))
    walk_at "nf"
    cases tk with
    | none =>
      refine q_seq (q_if (b := true) (eb_isN (d := .non) (ev_var rfl)) (fun _ => q_seq (q_set (ev_var rfl) (q_set (d := .int (st.tickets + 1)) (ev_op (ev_var rfl) ev_int rd_int) ?_))) fun c => by cases c)
      walk_at "nf"
      refine q_seq (q_set (d := rowD (.walks k st.tickets st.clock [])) ?_ ?_)
      · show Ev K _ _ (.tup [.int (k : Int), .str "walks", .int st.tickets, .int st.clock, .non, .ptup [], .int 0])
        walk_at "ev"
      walk_at "nf"
      refine q_retD (d := .tup [stD cw m { st with tickets := st.tickets + 1, rows := K70.upd st.rows h (.walks k st.tickets st.clock []) }, .tup [.int (h : Int), .str "begin", .int (k : Int), .int st.tickets, .int st.clock]]) (ev_told ?_ ?_ (Nat.le_of_ble_eq_true rfl)) (told_yes ?_ (by decide +kernel) (by decide +kernel) (by walk_at "gd"))
      · refine ev_call (ds := [stD cw m { st with tickets := st.tickets + 1 }, .int (h : Int), rowD (.walks k st.tickets st.clock [])]) (eva_cons ?_ (eva_cons (ev_var rfl) (eva_cons (ev_var rfl) eva_nil))) ⟨cw, m, _, h, _, rfl, hh, cx.sz, rfl⟩ fun _ e => e
        unfold stD
        walk_at "ev"
      · walk_at "eva"
      · unfold K70.step; rw [er]; rfl
    | some t =>
      refine q_seq (q_if (b := false) (eb_isN (d := .int t) (ev_var rfl)) (fun c => by cases c) fun _ => q_next ?_)
      refine q_seq (q_set (d := rowD (.walks k t st.clock [])) ?_ ?_)
      · show Ev K _ _ (.tup [.int (k : Int), .str "walks", .int t, .int st.clock, .non, .ptup [], .int 0])
        walk_at "ev"
      walk_at "nf"
      refine q_retD (d := .tup [stD cw m { st with rows := K70.upd st.rows h (.walks k t st.clock []) }, .tup [.int (h : Int), .str "begin", .int (k : Int), .int t, .int st.clock]]) (ev_told ?_ ?_ (Nat.le_of_ble_eq_true rfl)) (told_yes ?_ (by decide +kernel) (by decide +kernel) (by walk_at "gd"))
      · refine ev_call (ds := [stD cw m st, .int (h : Int), rowD (.walks k t st.clock [])]) (eva_cons ?_ (eva_cons (ev_var rfl) (eva_cons (ev_var rfl) eva_nil))) ⟨cw, m, _, h, _, rfl, hh, cx.sz, rfl⟩ fun _ e => e
        unfold stD
        walk_at "ev"
      · walk_at "eva"
      · unfold K70.step; rw [er]; rfl
  | _ => rw [er] at hc; exact hc.elim
def R_locks_next (ds : List D) (Q : D → Prop) : Prop := ∃ (cw : Crew) (m : Nat) (s : K70.S) (h k : Nat) (t r : Int) (rs ws : K70.RL) (d : Nat) (ph : Str) (q : Nat × Int),
  ds = [stD cw m s, .int (h : Int), .ptup (rsD ws)] ∧ h < cw.length ∧ Sz cw m ∧ rowD (s.rows h) = .tup [.int (k : Int), .str ph, .int t, .int r, .non, .ptup (rsD rs), .int (d : Int)] ∧ ws[d]? = some q ∧ q.1 < m ∧ Q = ToldR cw m h (K70.lockNext s h k t r rs ws d)
theorem rsD_get {l : K70.RL} {i : Nat} {q : Nat × Int} (h : l[i]? = some q) : (rsD l)[i]? = some (.tup [.int (q.1 : Int), .int q.2]) := by
  unfold rsD; rw [List.getElem?_map, h]; rfl
theorem ev_ixP {Γ : Gm} {te : TE} {ds : List D} {i n : Nat} {d : D} (h : Ev K te Γ (.ptup ds)) (hi : Γ[i]? = some (some (.int (n : Int)))) (hd : ds[n]? = some d) : Ev K (tOp (rIx K) te (tVar i)) Γ d := ev_op h (ev_var hi) (rd_ixP' (by omega) (by rw [Int.toNat_natCast]; exact hd))
theorem ok_locks_next (T : Txt K w mg) : FnOk P w K mg base CX0 2 T.d_locks_next.f T.d_locks_next.fd ["state", "hand", "writes"] (spD K R_locks_next) := by
  have G_with_row := ok_with_row (P := P) (base := base) T
  have G_with_cell := ok_with_cell (P := P) (base := base) T
  refine fn_data T.d_locks_next.F sc_locks_next (fun ds Q h => by obtain ⟨_, _, _, _, _, _, _, _, _, _, _, _, rfl, _⟩ := h; rfl) fun cdv A outer s H E hr => ?_
  refine ⟨_, (pss_cons (ps_asg (pe_ix ix_seq (pe_ix ix_seq (pv 0) pe_int (fun _ _ => rfl)) (pv 1) (fun _ _ => rfl)) (pg_tup rfl (pgs_cons (pg_name (i := 3) sc_locks_next.nd rfl (Or.inl rfl)) (pgs_cons (pg_name (i := 4) sc_locks_next.nd rfl (Or.inl rfl)) (pgs_cons (pg_name (i := 5) sc_locks_next.nd rfl (Or.inl rfl)) (pgs_cons (pg_name (i := 6) sc_locks_next.nd rfl (Or.inl rfl)) (pgs_cons (pg_name (i := 7) sc_locks_next.nd rfl (Or.inl rfl)) (pgs_cons (pg_name (i := 8) sc_locks_next.nd rfl (Or.inl rfl)) (pgs_cons (pg_name (i := 9) sc_locks_next.nd rfl (Or.inl rfl)) pgs_nil)))))))))
    (pss_cons (ps_set (i := 10) sc_locks_next.nd rfl (Or.inl rfl) (pe_ix ix_seq (pe_ix ix_seq (pv 2) (pv 9) (fun _ _ => rfl)) pe_int (fun _ _ => rfl)))
    (pss_cons (ps_asg (pe_ix ix_seq (pe_ix ix_seq (pv 0) pe_int (fun _ _ => rfl)) (pv 10) (fun _ _ => rfl)) (pg_tup rfl (pgs_cons (pg_name (i := 11) sc_locks_next.nd rfl (Or.inl rfl)) (pgs_cons (pg_name (i := 12) sc_locks_next.nd rfl (Or.inl rfl)) (pgs_cons (pg_name (i := 13) sc_locks_next.nd rfl (Or.inl rfl)) pgs_nil)))))
    (pss_cons (ps_if (pt_cmpR op_notN (pv 13) pe_non (nomark _)) (pss_one (ps_ret (pe_tup (pa_cons (pv 0) (pa_cons (pe_tup (pa_cons (pv 1) (pa_cons pe_str (pa_cons (pv 10) (pa_cons (pv 13) pa_nil))))) pa_nil))))) pss_nil)
    (pss_cons (ps_set (i := 14) sc_locks_next.nd rfl (Or.inl rfl) (pe_call G_with_cell (hr.mono (by first | decide | omega)) rfl T.d_with_cell.m T.d_with_cell.kp (b_with_cell T.d_with_cell.F) .nil pass0 (pa_cons (pv 0) (pa_cons (pv 10) (pa_cons (pe_tup (pa_cons (pv 11) (pa_cons (pv 12) (pa_cons (pv 1) pa_nil)))) pa_nil)))))
    (pss_one (ps_ret (pe_tup (pa_cons (pe_call G_with_row (hr.mono (by first | decide | omega)) rfl T.d_with_row.m T.d_with_row.kp (b_with_row T.d_with_row.F) .nil pass0 (pa_cons (pv 14) (pa_cons (pv 1) (pa_cons (pe_tup (pa_cons (pv 3) (pa_cons pe_str (pa_cons (pv 5) (pa_cons (pv 6) (pa_cons (pv 7) (pa_cons (pv 8) (pa_cons (pe_op op_add (pv 9) pe_int) pa_nil)))))))) pa_nil)))) (pa_cons (pe_tup (pa_cons (pv 1) (pa_cons pe_str (pa_cons (pv 10) pa_nil)))) pa_nil)))))))))), fun ds Q h => ?_⟩
  obtain ⟨cw, m, st, h, k, t, r, rs, ws, d, ph, q, rfl, hh, sz, er, hq, hm, rfl⟩ := h
  walk_at "nf"
  refine q_seq (q_asg ((ev_row rfl rfl hh).eq er) (gd_un7 ?_))
  walk_at "nf"
  refine q_seq (q_set (d := .int (q.1 : Int)) (ev_ix (ev_ixP (ev_var rfl) rfl (rsD_get hq)) (by decide) rfl) ?_)
  walk_at "nf"
  refine q_seq (q_asg (d := cellD (st.cells q.1)) (ev_cell rfl rfl hm) (gd_un3 ?_))
  walk_at "nf"
  cases ho : (st.cells q.1).holder with
  | some o =>
    refine q_seq (q_if (b := true) (eb_notN (d := .int (o : Int)) (ev_var rfl)) (fun _ => ?_) fun c => by cases c)
    refine q_retD (d := .tup [stD cw m st, .tup [.int (h : Int), .str "waits", .int (q.1 : Int), .int (o : Int)]]) (ev_told (ev_var rfl) (by walk_at "eva") (Nat.le_of_ble_eq_true rfl)) (told_no ?_ (by decide +kernel) (by decide +kernel) (by walk_at "gd"))
    unfold K70.lockNext; rw [hq]; simp only [ho]; rfl
  | none =>
    refine q_seq (q_if (b := false) (eb_notN (d := .non) (ev_var rfl)) (fun c => by cases c) fun _ => q_next ?_)
    refine q_seq (q_set (d := stD cw m { st with cells := K70.upd st.cells q.1 { (st.cells q.1) with holder := some h } }) ?_ ?_)
    · exact ev_call (ds := [stD cw m st, .int (q.1 : Int), cellD { (st.cells q.1) with holder := some h }]) (eva_cons (ev_var rfl) (eva_cons (ev_var rfl) (eva_cons (ev_tup (eva_cons (ev_var rfl) (eva_cons (ev_var rfl) (eva_cons (ev_var rfl) eva_nil))) (sz5 (Nat.le_of_ble_eq_true rfl))) eva_nil))) ⟨cw, m, st, q.1, _, rfl, hm, sz, rfl⟩ fun _ e => e
    walk_at "nf"
    refine q_retD (d := .tup [stD cw m { st with cells := K70.upd st.cells q.1 { (st.cells q.1) with holder := some h }, rows := K70.upd st.rows h (.locks k t r rs ws (d + 1)) }, .tup [.int (h : Int), .str "locks", .int (q.1 : Int)]]) (ev_told ?_ ?_ (Nat.le_of_ble_eq_true rfl)) (told_yes ?_ (by decide +kernel) (by decide +kernel) (by walk_at "gd"))
    · refine ev_call (ds := [stD cw m { st with cells := K70.upd st.cells q.1 { (st.cells q.1) with holder := some h } }, .int (h : Int), rowD (.locks k t r rs ws (d + 1))]) (eva_cons (ev_var rfl) (eva_cons (ev_var rfl) (eva_cons ?_ eva_nil))) ⟨cw, m, _, h, _, rfl, hh, sz, rfl⟩ fun _ e => e
      exact ev_tup (eva_cons (ev_var rfl) (eva_cons ev_str (eva_cons (ev_var rfl) (eva_cons (ev_var rfl) (eva_cons (ev_var rfl) (eva_cons (ev_var rfl) (eva_cons (ev_op (ev_var rfl) ev_int rd_int) eva_nil))))))) (sz5 (Nat.le_of_ble_eq_true rfl))
    · walk_at "eva"
    · unfold K70.lockNext; rw [hq]; simp only [ho]; rfl
end
end Wk
set_option Elab.async false
set_option linter.all false
set_option maxRecDepth 100000
set_option maxHeartbeats 4000000
/-! the deeds that walk, lock, check -/
namespace Wk
open PySem PySem.Spec PyProof.Rows L2
section
variable {P : Program} {w : World} {K : PySem.W.Frag} {mg : Str → Option Value} {base : Heap}
theorem gL_int {t : List Int} {n : Nat} : gdL (t.map D.int) n = true := gdL_of fun _ _ => rfl
theorem gL_rs {l : K70.RL} {n : Nat} : gdL (rsD l) (n + 1) = true := gdL_of fun _ _ => rfl
local macro_rules | `(tactic| walk_at "ev") => `(tactic| first
  | exact ev_int | exact ev_str | exact ev_non | exact ev_bl | exact ev_pt0 | exact ev_ref | exact ev_var rfl
  | (refine ev_tup ?_ (sz5 (Nat.le_of_ble_eq_true rfl)); walk_at "eva")
  | (refine ev_op (d1 := .tup _) (r := rIx _) ?_ ?_ (rd_ixT' ?_ ?_); walk_at "ev"; walk_at "ev"; (first | decide | omega); (first | rfl | assumption))
  | (refine ev_op ?_ ?_ rd_int; walk_at "ev"; walk_at "ev")
  | assumption)
local macro_rules | `(tactic| walk_at "gd") => `(tactic| simp only [gdL, gdD, gd_optN, gd_optI, gd_told, gd_rs, gL_int, gL_rs, c_stamp, c_held, c_ended, Bool.and_true, Bool.true_and, Bool.and_self])
local macro_rules | `(tactic| walk_at "nf") => `(tactic| refine q_nf (by simp only [List.map_cons, List.map_nil, List.cons_append, List.nil_append, List.length_cons, List.length_nil, List.replicate_succ, List.replicate_zero, List.set_cons_succ, List.set_cons_zero, Nat.reduceAdd, Nat.reduceSub, N_is_number, N_need_hand, N_gives, N_rests, N_begins, N_reads_cell, N_retries, N_walks, N_locks_next, N_written_by, N_sure_by, N_locks, N_checks, N_woken_by, N_backs, N_step]; exact rfl) ?_)
local macro_rules | `(tactic| walk_at "eva") => `(tactic| first | exact eva_nil | (refine eva_cons ?_ ?_; walk_at "ev"; walk_at "eva"))
theorem evp_ptT {Γ : Gm} {te : TE} {ty : Bool} {ps : Ks} (hd : Ev K te Γ (.tup (ps.map pairK))) (hg : ∀ q ∈ ps, good ty q.1) : EvP K (tCB (rPT K) (tCons (tCB (rSrtT K) (tCons te tNil)) tNil)) Γ (fun d => ∃ ps', SrtOf ps ps' ∧ d = .ptup (ps'.map pairK)) :=
  evp_cbP (evap_one (evp_cb (eva_cons hd eva_nil) (rcp_srtT hg))) fun ds ⟨d, ⟨ps', so, e⟩, e2⟩ => by
    subst e e2
    exact RC.p rc_ptup ⟨ps', so, rfl⟩
theorem gd_lst {Γ : Gm} {gs : TGs} {ds : List D} {nx : Gm → Prop} {n : Nat} (hl : ds.length = n) (h : GDs K gs ds Γ nx) : GD K (gLst K n gs) (.lst ds) Γ nx := fun v σ H Q sa a q => by
  obtain ⟨p, xs, e, hs, al⟩ := a
  exact ⟨p, xs, e, hs, by rw [AtL.len al, hl], h xs σ H Q sa al q⟩
theorem gd_lst2 {Γ : Gm} {d1 d2 : D} {i1 i2 : Nat} {nx : Gm → Prop} (h : nx ((Γ.set i1 (some d1)).set i2 (some d2))) : GD K (gLst K 2 (gCons (gName i1) (gCons (gName i2) gNil))) (.lst [d1, d2]) Γ nx := gd_lst rfl (gds_cons (gd_name (gds_cons (gd_name (gds_nil h)))))
def rdRes (p : K70.P) (s : K70.S) (h k : Nat) (t r : Int) (rs : K70.RL) (c : Nat) : K70.S × Bool :=
  if (s.cells c).holder.isSome then (s, false)
  else if (s.cells c).stamp > r then (K70.giveUp p s h, true)
  else ({ s with rows := K70.upd s.rows h (.walks k t r (K70.ins (c, (s.cells c).num) rs)) }, true)
def R_reads_cell (ds : List D) (Q : D → Prop) : Prop := ∃ (cw : Crew) (m : Nat) (s : K70.S) (h k : Nat) (t r : Int) (rs : K70.RL) (c : Nat),
  ds = [stD cw m s, .int (h : Int), .int (c : Int)] ∧ h < cw.length ∧ Sz cw m ∧ s.rows h = .walks k t r rs ∧ c < m ∧ K70.LOk m rs ∧ c ∉ rs.map (·.1) ∧ Q = ToldR cw m h (rdRes (crewP cw m) s h k t r rs c)
theorem ok_reads_cell (T : Txt K w mg) : FnOk P w K mg base CX0 4 T.d_reads_cell.f T.d_reads_cell.fd ["state", "hand", "cell"] (spD K R_reads_cell) := by
  have G_with_row := ok_with_row (P := P) (base := base) T
  have G_gives := ok_gives (P := P) (base := base) T
  refine fn_data T.d_reads_cell.F sc_reads_cell (fun ds Q h => by obtain ⟨_, _, _, _, _, _, _, _, _, rfl, _⟩ := h; rfl) fun cdv A outer s H E hr => ?_
  refine ⟨_, (pss_cons (ps_asg (pe_ix ix_seq (pe_ix ix_seq (pv 0) pe_int (fun _ _ => rfl)) (pv 2) (fun _ _ => rfl)) (pg_tup rfl (pgs_cons (pg_name (i := 3) sc_reads_cell.nd rfl (Or.inl rfl)) (pgs_cons (pg_name (i := 4) sc_reads_cell.nd rfl (Or.inl rfl)) (pgs_cons (pg_name (i := 5) sc_reads_cell.nd rfl (Or.inl rfl)) pgs_nil)))))
    (pss_cons (ps_asg (pe_ix ix_seq (pe_ix ix_seq (pv 0) pe_int (fun _ _ => rfl)) (pv 1) (fun _ _ => rfl)) (pg_tup rfl (pgs_cons (pg_name (i := 6) sc_reads_cell.nd rfl (Or.inl rfl)) (pgs_cons (pg_name (i := 7) sc_reads_cell.nd rfl (Or.inl rfl)) (pgs_cons (pg_name (i := 8) sc_reads_cell.nd rfl (Or.inl rfl)) (pgs_cons (pg_name (i := 9) sc_reads_cell.nd rfl (Or.inl rfl)) (pgs_cons (pg_name (i := 10) sc_reads_cell.nd rfl (Or.inl rfl)) (pgs_cons (pg_name (i := 11) sc_reads_cell.nd rfl (Or.inl rfl)) (pgs_cons (pg_name (i := 12) sc_reads_cell.nd rfl (Or.inl rfl)) pgs_nil)))))))))
    (pss_cons (ps_if (pt_cmpR op_notN (pv 5) pe_non (nomark _)) (pss_one (ps_ret (pe_tup (pa_cons (pv 0) (pa_cons (pe_tup (pa_cons (pv 1) (pa_cons pe_str (pa_cons (pv 2) (pa_cons (pv 5) pa_nil))))) pa_nil))))) pss_nil)
    (pss_cons (ps_if (pt_cmpR op_gt (pv 4) (pv 9) (nomark _)) (pss_one (ps_ret (pe_call G_gives (hr.mono (by first | decide | omega)) rfl T.d_gives.m T.d_gives.kp (b_gives T.d_gives.F) .nil pass0 (pa_cons (pv 0) (pa_cons (pv 1) (pa_cons (pe_tup (pa_cons pe_str (pa_cons (pv 2) pa_nil))) pa_nil)))))) pss_nil)
    (pss_cons (ps_set (i := 13) sc_reads_cell.nd rfl (Or.inl rfl) (pe_tup (pa_cons (pv 6) (pa_cons (pv 7) (pa_cons (pv 8) (pa_cons (pv 9) (pa_cons (pv 10) (pa_cons (pe_callTy call_ptuple (by rfl) T.z_tuple (by decide +kernel) (pa_cons (pe_callB cr_srtT (by rfl) T.z_sorted (by decide +kernel) (pa_cons (pe_op op_catA (pv 11) (pe_tup (pa_cons (pe_tup (pa_cons (pv 2) (pa_cons (pv 3) pa_nil))) pa_nil))) pa_nil)) pa_nil)) (pa_cons (pv 12) pa_nil)))))))))
    (pss_one (ps_ret (pe_tup (pa_cons (pe_call G_with_row (hr.mono (by first | decide | omega)) rfl T.d_with_row.m T.d_with_row.kp (b_with_row T.d_with_row.F) .nil pass0 (pa_cons (pv 0) (pa_cons (pv 1) (pa_cons (pv 13) pa_nil)))) (pa_cons (pe_tup (pa_cons (pv 1) (pa_cons pe_str (pa_cons (pv 2) (pa_cons (pv 3) pa_nil))))) pa_nil)))))))))), fun ds Q h => ?_⟩
  obtain ⟨cw, m, st, h, k, t, r, rs, c, rfl, hh, sz, er, hc, hl, hn, rfl⟩ := h
  walk_at "nf"
  refine q_seq (q_asg (d := cellD (st.cells c)) (ev_cell rfl rfl hc) (gd_un3 ?_))
  walk_at "nf"
  refine q_seq (q_asg (d := .tup [.int (k : Int), .str "walks", .int t, .int r, .non, .ptup (rsD rs), .int 0]) ((ev_row rfl rfl hh).eq (by rw [er]; rfl)) (gd_un7 ?_))
  walk_at "nf"
  cases ho : (st.cells c).holder with
  | some o =>
    refine q_seq (q_if (b := true) (eb_notN (d := .int (o : Int)) (ev_var rfl)) (fun _ => ?_) fun c => by cases c)
    refine q_retD (d := .tup [stD cw m st, .tup [.int (h : Int), .str "waits", .int (c : Int), .int (o : Int)]]) (ev_told (ev_var rfl) (by walk_at "eva") (Nat.le_of_ble_eq_true rfl)) (told_no ?_ (by decide +kernel) (by decide +kernel) (by walk_at "gd"))
    unfold rdRes; rw [ho]; rfl
  | none =>
    refine q_seq (q_if (b := false) (eb_notN (d := .non) (ev_var rfl)) (fun c => by cases c) fun _ => q_next ?_)
    refine q_seq (q_if (b := decide (r < (st.cells c).stamp)) (eb_test (ev_op (ev_var rfl) (ev_var rfl) rd_gt)) (fun b => ?_) fun b => q_next ?_)
    · have b := of_decide_eq_true b
      refine q_ret (evp_call (eva_cons (ev_var rfl) (eva_cons (ev_var rfl) (eva_cons (d := .tup [.str "stamp", .int (c : Int)]) (by walk_at "ev") eva_nil))) ⟨cw, m, st, h, _, rfl, hh, sz, (by walk_at "gd"), rfl⟩) fun d e => ?_
      have : rdRes (crewP cw m) st h k t r rs c = (K70.giveUp (crewP cw m) st h, true) := by
        unfold rdRes; rw [ho]; simp only [Option.isSome_none, Bool.false_eq_true, if_false]; rw [if_pos b]
      rw [this]; exact e
    · have b := of_decide_eq_false b
      have hlo := hl.ins (q := (c, (st.cells c).num)) hc hn
      have hlen := hl.len
      have szm := sz.m
      refine q_seq (q_set (d := rowD (.walks k t r (K70.ins (c, (st.cells c).num) rs))) ?_ ?_)
      · show Ev K _ _ (.tup [.int (k : Int), .str "walks", .int t, .int r, .non, .ptup (rsD (K70.ins (c, (st.cells c).num) rs)), .int 0])
        refine ev_tup (eva_cons (ev_var rfl) (eva_cons (ev_var rfl) (eva_cons (ev_var rfl) (eva_cons (ev_var rfl) (eva_cons (ev_var rfl) (eva_cons ?_ (eva_cons (ev_var rfl) eva_nil))))))) (sz5 (Nat.le_of_ble_eq_true rfl))
        refine (evp_ptT (ty := true) (ps := rsK rs ++ ([(.inl (c : Int), (st.cells c).num)] : Ks)) ?_ fun q hq => ?_).det fun d ⟨ps', so, e⟩ => by rw [e, sorted_ins (q := (c, (st.cells c).num)) so hlo]
        · refine (ev_op (d1 := .ptup (rsD rs)) (d2 := .tup [.tup [.int (c : Int), .int (st.cells c).num]]) (ev_var rfl) (by walk_at "ev") (rd_catP (sz5 ?_))).eq ?_
          · unfold rsD; rw [List.length_map]; simp only [List.length_cons, List.length_nil]; omega
          · rw [List.map_append, rsD_pair]; rfl
        · rcases List.mem_append.mp hq with hq | hq
          · obtain ⟨c', e⟩ := rsK_inl q hq; rw [e]; trivial
          · rw [List.mem_singleton.mp hq]; trivial
      walk_at "nf"
      refine q_retD (d := .tup [stD cw m { st with rows := K70.upd st.rows h (.walks k t r (K70.ins (c, (st.cells c).num) rs)) }, .tup [.int (h : Int), .str "read", .int (c : Int), .int (st.cells c).num]]) (ev_told ?_ (by walk_at "eva") (Nat.le_of_ble_eq_true rfl)) (told_yes ?_ (by decide +kernel) (by decide +kernel) (by walk_at "gd"))
      · exact ev_call (eva_cons (ev_var rfl) (eva_cons (ev_var rfl) (eva_cons (ev_var rfl) eva_nil))) ⟨cw, m, st, h, _, rfl, hh, sz, rfl⟩ fun _ e => e
      · unfold rdRes; rw [ho]; simp only [Option.isSome_none, Bool.false_eq_true, if_false]; rw [if_neg b]
def R_retries (ds : List D) (Q : D → Prop) : Prop := ∃ (cw : Crew) (m : Nat) (s : K70.S) (h k : Nat) (t r : Int) (rs : K70.RL),
  ds = [stD cw m s, .int (h : Int)] ∧ h < cw.length ∧ Sz cw m ∧ s.rows h = .walks k t r rs ∧ K70.LOk m rs ∧ Q = ToldR cw m h (if rs.any (K70.isLate s r) then (K70.giveUp (crewP cw m) s h, true) else ({ s with rows := K70.upd s.rows h (.sleeps k t r rs) }, true))
theorem late_empty {l : K70.RL} {f : Nat × Int → Bool} : (l.filterMap fun q => if f q = true then some (D.int (q.1 : Int)) else none).isEmpty = !l.any f := by
  induction l with
  | nil => rfl
  | cons q l ih =>
    rw [List.filterMap_cons, List.any_cons]
    by_cases e : f q = true
    · simp [e]
    · simp only [if_neg e, ih]; simp [e]
theorem ok_retries (T : Txt K w mg) : FnOk P w K mg base CX0 4 T.d_retries.f T.d_retries.fd ["state", "hand"] (spD K R_retries) := by
  have G_with_row := ok_with_row (P := P) (base := base) T
  have G_gives := ok_gives (P := P) (base := base) T
  refine fn_data T.d_retries.F sc_retries (fun ds Q h => by obtain ⟨_, _, _, _, _, _, _, _, rfl, _⟩ := h; rfl) fun cdv A outer s H E hr => ?_
  refine ⟨_, (pss_cons (ps_asg (pe_ix ix_seq (pe_ix ix_seq (pv 0) pe_int (fun _ _ => rfl)) (pv 1) (fun _ _ => rfl)) (pg_tup rfl (pgs_cons (pg_name (i := 2) sc_retries.nd rfl (Or.inl rfl)) (pgs_cons (pg_name (i := 3) sc_retries.nd rfl (Or.inl rfl)) (pgs_cons (pg_name (i := 4) sc_retries.nd rfl (Or.inl rfl)) (pgs_cons (pg_name (i := 5) sc_retries.nd rfl (Or.inr rfl)) (pgs_cons (pg_name (i := 6) sc_retries.nd rfl (Or.inl rfl)) (pgs_cons (pg_name (i := 7) sc_retries.nd rfl (Or.inl rfl)) (pgs_cons (pg_name (i := 8) sc_retries.nd rfl (Or.inl rfl)) pgs_nil)))))))))
    (pss_cons (ps_setLc (i := 9) (own := [("cell", 11), ("number", 12)]) (g := (gTup K 2 (gCons (gName 11) (gCons (gName 12) gNil)))) (tt := (tTest (tOp (rI0 fun i j => V.bl (decide (j < i))) (tOp (rIx K) (tOp (rIx K) (tOp (rIx K) (tVar 0) (tC (.int 3))) (tVar 11)) (tC (.int 1))) (tVar 5)))) (te := (tVar 11)) rfl sc_retries.nd rfl rfl (sw_true rfl rfl rfl (by decide +kernel)) (pi_tup (pv 7)) (blkOk_by (N := N_retries) (sc := defScope s_retries) (by decide +kernel)) (fun _ _ _ _ _ => (pg_tup rfl (pgs_cons (pg_name (i := 11) sc_retries.nd rfl (Or.inl rfl) (.inr rfl)) (pgs_cons (pg_name (i := 12) sc_retries.nd rfl (Or.inl rfl) (.inr rfl)) pgs_nil)))) (fun _ _ _ _ _ => pts_one (pt_cmpR op_gt (pe_ix ix_seq (pe_ix ix_seq (pe_ix ix_seq (pv 0) pe_int (fun _ _ => rfl)) (pv 11) (fun _ _ => rfl)) pe_int (fun _ _ => rfl)) (pv 5) (nomark _))) (fun _ _ _ _ _ => (pv 11)))
    (pss_cons (ps_if (pt_cmpR (op_neD hr.units) (pv 9) (pe_lst pa_nil) (nomark _)) (pss_one (ps_ret (pe_call G_gives (hr.mono (by first | decide | omega)) rfl T.d_gives.m T.d_gives.kp (b_gives T.d_gives.F) .nil pass0 (pa_cons (pv 0) (pa_cons (pv 1) (pa_cons (pe_tup (pa_cons pe_str (pa_cons (pe_ix ix_seq (pv 9) pe_int (fun _ _ => rfl)) pa_nil))) pa_nil)))))) pss_nil)
    (pss_cons (ps_set (i := 10) sc_retries.nd rfl (Or.inl rfl) (pe_tup (pa_cons (pv 2) (pa_cons pe_str (pa_cons (pv 4) (pa_cons (pv 5) (pa_cons (pv 6) (pa_cons (pv 7) (pa_cons (pv 8) pa_nil)))))))))
    (pss_one (ps_ret (pe_tup (pa_cons (pe_call G_with_row (hr.mono (by first | decide | omega)) rfl T.d_with_row.m T.d_with_row.kp (b_with_row T.d_with_row.F) .nil pass0 (pa_cons (pv 0) (pa_cons (pv 1) (pa_cons (pv 10) pa_nil)))) (pa_cons (pe_tup (pa_cons (pv 1) (pa_cons pe_str (pa_cons (pe_callTy call_tuple_of (by rfl) T.z_tuple (by decide +kernel) (pa_cons (pe_lc (own := [("cell", 11), ("number", 12)]) (g := (gTup K 2 (gCons (gName 11) (gCons (gName 12) gNil)))) (tt := tYes) (te := (tVar 11)) rfl sc_retries.nd (pi_tup (pv 7)) (blkOk_by (N := N_retries) (sc := defScope s_retries) (by decide +kernel)) (fun _ _ _ _ _ => (pg_tup rfl (pgs_cons (pg_name (i := 11) sc_retries.nd rfl (Or.inl rfl) (.inr rfl)) (pgs_cons (pg_name (i := 12) sc_retries.nd rfl (Or.inl rfl) (.inr rfl)) pgs_nil)))) (fun _ _ _ _ _ => pts_nil) (fun _ _ _ _ _ => (pv 11))) pa_nil)) pa_nil)))) pa_nil))))))))), fun ds Q h => ?_⟩
  obtain ⟨cw, m, st, h, k, t, r, rs, rfl, hh, sz, er, hl, rfl⟩ := h
  have hlen := hl.len
  have szm := sz.m
  walk_at "nf"
  refine q_seq (q_asg (d := .tup [.int (k : Int), .str "walks", .int t, .int r, .non, .ptup (rsD rs), .int 0]) ((ev_row rfl rfl hh).eq (by rw [er]; rfl)) (gd_un7 ?_))
  walk_at "nf"
  refine q_seq (q_asg (d := .lst (rs.filterMap fun q => if K70.isLate st r q = true then some (D.int (q.1 : Int)) else none)) ?_ (gd_name ?_))
  · refine ev_lcM (f := fun q : Nat × Int => .tup [.int (q.1 : Int), .int q.2]) _ (ev_pt (ev_var rfl)) (by omega) fun q hq => ?_
    refine gw_un2 (by decide) (by decide) ⟨K70.isLate st r q, ?_, fun e => ?_, fun e => ?_⟩
    · exact eb_test (ev_op (ev_ix (ev_cell (c := q.1) rfl rfl (hl.lt q hq)) (by decide) rfl) (ev_var rfl) rd_gt)
    · exact ⟨.int (q.1 : Int), by rw [if_pos e], rfl, ev_var rfl⟩
    · rw [if_neg (by rw [e]; exact Bool.false_ne_true)]
  walk_at "nf"
  have hgd : gdL (rs.filterMap fun q => if K70.isLate st r q = true then some (D.int (q.1 : Int)) else none) 1 = true := gdL_mem fun d hd => by
    obtain ⟨q, _, e⟩ := List.mem_filterMap.mp hd
    split at e
    · rw [← Option.some.inj e]; rfl
    · cases e
  refine q_seq (q_if (b := rs.any (K70.isLate st r)) ((eb_test (ev_op (ev_var rfl) (ev_lst eva_nil (Nat.zero_le _)) (rd_neL hgd (by decide)))).eq (by rw [late_empty, Bool.not_not])) (fun b => ?_) fun b => q_next ?_)
  · have hne : (rs.filterMap fun q => if K70.isLate st r q = true then some (D.int (q.1 : Int)) else none) ≠ [] := fun z => by
      have := late_empty (l := rs) (f := K70.isLate st r)
      rw [z, b] at this; cases this
    obtain ⟨d0, l0, e0⟩ := List.exists_cons_of_ne_nil hne
    have hd0 : gdD d0 1 = true := by rw [e0] at hgd; simp only [gdL, Bool.and_eq_true] at hgd; exact hgd.1
    have hd0' : ∃ i : Int, d0 = .int i := by
      have : d0 ∈ rs.filterMap fun q => if K70.isLate st r q = true then some (D.int (q.1 : Int)) else none := by rw [e0]; exact List.mem_cons_self
      obtain ⟨q, _, e⟩ := List.mem_filterMap.mp this
      split at e
      · exact ⟨_, (Option.some.inj e).symm⟩
      · cases e
    obtain ⟨i, rfl⟩ := hd0'
    refine q_ret (evp_call (eva_cons (ev_var rfl) (eva_cons (ev_var rfl) (eva_cons (d := .tup [.str "stamp", .int i]) (ev_tup (eva_cons ev_str (eva_cons (ev_ixl (ev_var rfl) (by decide) (by rw [e0]; rfl)) eva_nil)) (sz5 (Nat.le_of_ble_eq_true rfl))) eva_nil))) ⟨cw, m, st, h, _, rfl, hh, sz, (by walk_at "gd"), rfl⟩) fun d e => ?_
    rw [if_pos b]; exact e
  · refine q_seq (q_set (d := rowD (.sleeps k t r rs)) ?_ ?_)
    · show Ev K _ _ (.tup [.int (k : Int), .str "sleeps", .int t, .int r, .non, .ptup (rsD rs), .int 0])
      walk_at "ev"
    walk_at "nf"
    refine q_retD (d := .tup [stD cw m { st with rows := K70.upd st.rows h (.sleeps k t r rs) }, .tup [.int (h : Int), .str "sleeps", .tup (rs.filterMap fun q => some (D.int (q.1 : Int)))]]) (ev_told ?_ (eva_cons (ev_var rfl) (eva_cons ev_str (eva_cons ?_ eva_nil))) (Nat.le_of_ble_eq_true rfl)) (told_yes ?_ (by decide +kernel) (by decide +kernel) ?_)
    · exact ev_call (eva_cons (ev_var rfl) (eva_cons (ev_var rfl) (eva_cons (ev_var rfl) eva_nil))) ⟨cw, m, st, h, _, rfl, hh, sz, rfl⟩ fun _ e => e
    · refine ev_cb (eva_cons (ev_lcM (f := fun q : Nat × Int => .tup [.int (q.1 : Int), .int q.2]) _ (ev_pt (ev_var rfl)) (by omega) fun q hq => ?_) eva_nil) rc_tuple
      exact lc_keep rfl (gw_un2 (by decide) (by decide) (ev_var rfl))
    · rw [if_neg (by rw [b]; exact Bool.false_ne_true)]
    · have : gdL (rs.filterMap fun q => some (D.int (q.1 : Int))) 7 = true := gdL_mem fun d hd => by
        obtain ⟨q, _, e⟩ := List.mem_filterMap.mp hd
        rw [← Option.some.inj e]; rfl
      simp only [gdL, gdD, this]; rfl
def toldOf (p : Pg) (rs : K70.RL) : List Int := (walkOn (rsK rs) p ⟨[], [], []⟩).2.told
theorem goesD_en {p : Pg} {rs ws : K70.RL} (h : goesOn p rs = .ended ws) : goesD p rs = .tup [.str "ended", .tup ((toldOf p rs).map .int), .ptup (rsD ws)] := by
  unfold goesOn at h
  unfold goesD toldOf
  cases e : (walkOn (rsK rs) p ⟨[], [], []⟩).1 with
  | on => simp only [e] at h ⊢; cases h; rfl
  | out => simp only [e] at h; cases h
  | retry => simp only [e] at h; cases h
  | need c => simp only [e] at h; cases h
/-- the walk of a hand's pact -/
theorem ev_goes {Γ : Gm} {ta : TE} {cw : Crew} {m : Nat} {s : K70.S} {h : Nat} {i j : Nat} {rs : K70.RL} {E E' : XK} (hj : Γ[j]? = some (some (stD cw m s))) (hi : Γ[i]? = some (some (.int (h : Int)))) (hh : h < cw.length) (hk : (s.rows h).k < (cw.getD h []).length) (ok : CrewOk m cw) (hl : K70.LOk m rs) (ha : Ev K ta Γ (.ptup (rsD rs))) :
    Ev K (tCall (spD K R_goes_on) [] E (tCons (tCall (spD K R_pact_of) [] E' (tCons (tVar j) (tCons (tVar i) tNil))) (tCons ta tNil))) Γ (goesD (prog cw h (s.rows h).k) rs) := by
  have o := crew_prog ok h (s.rows h).k
  exact ev_call (eva_cons (d := pgD (prog cw h (s.rows h).k)) (ev_call (eva_cons (ev_var hj) (eva_cons (ev_var hi) eva_nil)) ⟨cw, m, s, h, rfl, hh, hk, rfl⟩ fun _ e => e) (eva_cons ha eva_nil)) ⟨_, rs, m, rfl, o.1, o.2.1, o.2.2, hl, rfl⟩ fun _ e => e
def isWalks : K70.Row → Prop | .walks _ _ _ _ => True | _ => False
theorem ok_walks (T : Txt K w mg) : FnOk P w K mg base CX0 19 T.d_walks.f T.d_walks.fd ["state", "hand"] (spD K (R_deed isWalks)) := by
  have G_goes_on := ok_goes_on (P := P) (base := base) T
  have G_pact_of := ok_pact_of (P := P) (base := base) T
  have G_reads_cell := ok_reads_cell (P := P) (base := base) T
  have G_retries := ok_retries (P := P) (base := base) T
  have G_done_with := ok_done_with (P := P) (base := base) T
  have G_locks_next := ok_locks_next (P := P) (base := base) T
  refine fn_data T.d_walks.F sc_walks (fun ds Q h => by obtain ⟨_, _, _, _, rfl, _⟩ := h; rfl) fun cdv A outer s H E hr => ?_
  refine ⟨_, (pss_cons (ps_asg (pe_ix ix_seq (pe_ix ix_seq (pv 0) pe_int (fun _ _ => rfl)) (pv 1) (fun _ _ => rfl)) (pg_tup rfl (pgs_cons (pg_name (i := 2) sc_walks.nd rfl (Or.inl rfl)) (pgs_cons (pg_name (i := 3) sc_walks.nd rfl (Or.inl rfl)) (pgs_cons (pg_name (i := 4) sc_walks.nd rfl (Or.inl rfl)) (pgs_cons (pg_name (i := 5) sc_walks.nd rfl (Or.inl rfl)) (pgs_cons (pg_name (i := 6) sc_walks.nd rfl (Or.inl rfl)) (pgs_cons (pg_name (i := 7) sc_walks.nd rfl (Or.inl rfl)) (pgs_cons (pg_name (i := 8) sc_walks.nd rfl (Or.inl rfl)) pgs_nil)))))))))
    (pss_cons (ps_asg (pe_call G_goes_on (hr.mono (by first | decide | omega)) rfl T.d_goes_on.m T.d_goes_on.kp (b_goes_on T.d_goes_on.F) .nil pass0 (pa_cons (pe_call G_pact_of (hr.mono (by first | decide | omega)) rfl T.d_pact_of.m T.d_pact_of.kp (b_pact_of T.d_pact_of.F) .nil pass0 (pa_cons (pv 0) (pa_cons (pv 1) pa_nil))) (pa_cons (pv 7) pa_nil))) (pg_star rfl (pgs_cons (pg_name (i := 9) sc_walks.nd rfl (Or.inl rfl)) (pgs_star (pg_name (i := 10) sc_walks.nd rfl (Or.inl rfl)) pgs_nil))))
    (pss_cons (ps_if (pt_cmpR op_eq (pv 9) pe_str (nomark _)) (pss_one (ps_ret (pe_call G_reads_cell (hr.mono (by first | decide | omega)) rfl T.d_reads_cell.m T.d_reads_cell.kp (b_reads_cell T.d_reads_cell.F) .nil pass0 (pa_cons (pv 0) (pa_cons (pv 1) (pa_cons (pe_ix ix_seq (pv 10) pe_int (fun _ _ => rfl)) pa_nil)))))) pss_nil)
    (pss_cons (ps_if (pt_cmpR op_eq (pv 9) pe_str (nomark _)) (pss_one (ps_ret (pe_call G_retries (hr.mono (by first | decide | omega)) rfl T.d_retries.m T.d_retries.kp (b_retries T.d_retries.F) .nil pass0 (pa_cons (pv 0) (pa_cons (pv 1) pa_nil))))) pss_nil)
    (pss_cons (ps_if (pt_cmpR op_eq (pv 9) pe_str (nomark _)) (pss_one (ps_ret (pe_tup (pa_cons (pe_call G_done_with (hr.mono (by first | decide | omega)) rfl T.d_done_with.m T.d_done_with.kp (b_done_with T.d_done_with.F) .nil pass0 (pa_cons (pv 0) (pa_cons (pv 1) pa_nil))) (pa_cons (pe_tup (pa_cons (pv 1) (pa_cons (pv 9) (pa_cons (pv 2) (pa_cons (pv 5) pa_nil))))) pa_nil))))) pss_nil)
    (pss_cons (ps_asg (pv 10) (pg_lst rfl (pgs_cons (pg_name (i := 11) sc_walks.nd rfl (Or.inl rfl)) (pgs_cons (pg_name (i := 12) sc_walks.nd rfl (Or.inl rfl)) pgs_nil))))
    (pss_cons (ps_if (pt_cmpR (op_eqD hr.units) (pv 12) pe_pt0 (nomark _)) (pss_one (ps_ret (pe_tup (pa_cons (pe_call G_done_with (hr.mono (by first | decide | omega)) rfl T.d_done_with.m T.d_done_with.kp (b_done_with T.d_done_with.F) .nil pass0 (pa_cons (pv 0) (pa_cons (pv 1) pa_nil))) (pa_cons (pe_tup (pa_cons (pv 1) (pa_cons (pv 9) (pa_cons (pv 2) (pa_cons (pv 5) (pa_cons (pv 11) pa_nil)))))) pa_nil))))) pss_nil)
    (pss_one (ps_ret (pe_call G_locks_next (hr.mono (by first | decide | omega)) rfl T.d_locks_next.m T.d_locks_next.kp (b_locks_next T.d_locks_next.F) .nil pass0 (pa_cons (pv 0) (pa_cons (pv 1) (pa_cons (pv 12) pa_nil))))))))))))), fun ds Q h => ?_⟩
  obtain ⟨cw, m, st, h, rfl, hh, cx, hc, rfl⟩ := h
  cases er : st.rows h with
  | walks k t r rs =>
    have hk : (st.rows h).k < (cw.getD h []).length := by have := cx.inv.row h hh; rw [er] at this ⊢; exact this
    have ek : (st.rows h).k = k := by rw [er]; rfl
    have hl : K70.LOk m rs := by have := cx.inv.rsOk h hh; rw [er] at this; exact this
    have gk : (crewP cw m).g h k rs = goesOn (prog cw h k) rs := rfl
    have gp := goesD_on (p := prog cw h k) (rs := rs)
    walk_at "nf"
    refine q_seq (q_asg (d := .tup [.int (k : Int), .str "walks", .int t, .int r, .non, .ptup (rsD rs), .int 0]) ((ev_row rfl rfl hh).eq (by rw [er]; rfl)) (gd_un7 ?_))
    walk_at "nf"
    have go : ∀ {Γ : Gm} {E E' : XK}, Γ[0]? = some (some (stD cw m st)) → Γ[1]? = some (some (.int (h : Int))) → Γ[7]? = some (some (.ptup (rsD rs))) → Ev K (tCall (spD K R_goes_on) [] E (tCons (tCall (spD K R_pact_of) [] E' (tCons (tVar 0) (tCons (tVar 1) tNil))) (tCons (tVar 7) tNil))) Γ (goesD (prog cw h k) rs) := fun h0 h1 h7 => (ev_goes h0 h1 hh hk cx.ok hl (ev_var h7)).eq (by rw [ek])
    have done : ∀ {Γ : Gm} {E : XK}, Γ[0]? = some (some (stD cw m st)) → Γ[1]? = some (some (.int (h : Int))) → Ev K (tCall (spD K R_done_with) [] E (tCons (tVar 0) (tCons (tVar 1) tNil))) Γ (stD cw m (K70.doneWith (crewP cw m) st h)) := fun h0 h1 => ev_call (eva_cons (ev_var h0) (eva_cons (ev_var h1) eva_nil)) ⟨cw, m, st, h, rfl, hh, cx.sz, rfl⟩ fun _ e => e
    cases eg : goesOn (prog cw h k) rs with
    | reads c =>
      rw [eg] at gp
      obtain ⟨c1, c2⟩ := (crew_ok cx.ok).rd h k rs c eg
      refine q_seq (q_asg (d := .tup [.str "reads", .int (c : Int)]) ((go rfl rfl rfl).eq gp) (gd_star1 ?_))
      walk_at "nf"
      refine q_seq (q_if (b := true) ((ev_isEqS (ev_var rfl) ev_str).eq (by decide +kernel)) (fun _ => ?_) fun c => by cases c)
      refine q_ret (evp_call (eva_cons (ev_var rfl) (eva_cons (ev_var rfl) (eva_cons (ev_ixl (ev_var rfl) (by decide) rfl) eva_nil))) ⟨cw, m, st, h, k, t, r, rs, c, rfl, hh, cx.sz, er, c1, hl, c2, rfl⟩) fun d e => ?_
      have : K70.step (crewP cw m) st h = rdRes (crewP cw m) st h k t r rs c := by
        unfold K70.step rdRes; simp only [er, gk, eg]
      rw [this]; exact e
    | retries =>
      rw [eg] at gp
      refine q_seq (q_asg (d := .tup [.str "retries", .ptup [], .ptup []]) ((go rfl rfl rfl).eq gp) (gd_star1 ?_))
      walk_at "nf"
      refine q_seq (q_if (b := false) ((ev_isEqS (ev_var rfl) ev_str).eq (by decide +kernel)) (fun c => by cases c) fun _ => q_next ?_)
      refine q_seq (q_if (b := true) ((ev_isEqS (ev_var rfl) ev_str).eq (by decide +kernel)) (fun _ => ?_) fun c => by cases c)
      refine q_ret (evp_call (eva_cons (ev_var rfl) (eva_cons (ev_var rfl) eva_nil)) ⟨cw, m, st, h, k, t, r, rs, rfl, hh, cx.sz, er, hl, rfl⟩) fun d e => ?_
      have : K70.step (crewP cw m) st h = if rs.any (K70.isLate st r) then (K70.giveUp (crewP cw m) st h, true) else ({ st with rows := K70.upd st.rows h (.sleeps k t r rs) }, true) := by
        unfold K70.step; simp only [er, gk, eg]
      rw [this]; exact e
    | dropped =>
      rw [eg] at gp
      refine q_seq (q_asg (d := .tup [.str "dropped", .ptup [], .ptup []]) ((go rfl rfl rfl).eq gp) (gd_star1 ?_))
      walk_at "nf"
      refine q_seq (q_if (b := false) ((ev_isEqS (ev_var rfl) ev_str).eq (by decide +kernel)) (fun c => by cases c) fun _ => q_next ?_)
      refine q_seq (q_if (b := false) ((ev_isEqS (ev_var rfl) ev_str).eq (by decide +kernel)) (fun c => by cases c) fun _ => q_next ?_)
      refine q_seq (q_if (b := true) ((ev_isEqS (ev_var rfl) ev_str).eq (by decide +kernel)) (fun _ => ?_) fun c => by cases c)
      refine q_retD (d := .tup [stD cw m (K70.doneWith (crewP cw m) st h), .tup [.int (h : Int), .str "dropped", .int (k : Int), .int r]]) (ev_told (done rfl rfl) (by walk_at "eva") (Nat.le_of_ble_eq_true rfl)) (told_yes ?_ (by decide +kernel) (by decide +kernel) (by walk_at "gd"))
      unfold K70.step; simp only [er, gk, eg]
    | ended ws =>
      have gp := goesD_en eg
      have hw := (crew_ok cx.ok).en h k rs ws eg
      refine q_seq (q_asg (d := .tup [.str "ended", .tup ((toldOf (prog cw h k) rs).map .int), .ptup (rsD ws)]) ((go rfl rfl rfl).eq gp) (gd_star1 ?_))
      walk_at "nf"
      refine q_seq (q_if (b := false) ((ev_isEqS (ev_var rfl) ev_str).eq (by decide +kernel)) (fun c => by cases c) fun _ => q_next ?_)
      refine q_seq (q_if (b := false) ((ev_isEqS (ev_var rfl) ev_str).eq (by decide +kernel)) (fun c => by cases c) fun _ => q_next ?_)
      refine q_seq (q_if (b := false) ((ev_isEqS (ev_var rfl) ev_str).eq (by decide +kernel)) (fun c => by cases c) fun _ => q_next ?_)
      refine q_seq (q_asg (ev_var rfl) (gd_lst2 ?_))
      walk_at "nf"
      have step : K70.step (crewP cw m) st h = if ws = [] then (K70.doneWith (crewP cw m) st h, true) else K70.lockNext st h k t r rs ws 0 := by
        unfold K70.step; simp only [er, gk, eg]
      refine q_seq (q_if (b := (rsD ws).isEmpty) (eb_test (ev_op (ev_var rfl) ev_pt0 (rd_eqP rs_gd (by decide)))) (fun b => ?_) fun b => q_next ?_)
      · have e0 : ws = [] := by cases ws with | nil => rfl | cons a b => simp [rsD] at b; 
        refine q_retD (d := .tup [stD cw m (K70.doneWith (crewP cw m) st h), .tup [.int (h : Int), .str "ended", .int (k : Int), .int r, .tup ((toldOf (prog cw h k) rs).map .int)]]) (ev_told (done rfl rfl) (by walk_at "eva") (Nat.le_of_ble_eq_true rfl)) (told_yes ?_ (by decide +kernel) (by decide +kernel) (by walk_at "gd"))
        rw [step, if_pos e0]
      · obtain ⟨q, hq⟩ : ∃ q, ws[0]? = some q := by cases ws with | nil => cases b | cons a b => exact ⟨a, rfl⟩
        have hne : ws ≠ [] := by rintro rfl; cases hq
        refine q_ret (evp_call (eva_cons (ev_var rfl) (eva_cons (ev_var rfl) (eva_cons (ev_var rfl) eva_nil))) ⟨cw, m, st, h, k, t, r, rs, ws, 0, "walks", q, rfl, hh, cx.sz, by rw [er]; rfl, hq, hw.lt q (List.mem_of_getElem? hq), rfl⟩) fun d e => ?_
        rw [step, if_neg hne]; exact e
  | _ => rw [er] at hc; exact hc.elim
end
end Wk
set_option Elab.async false
set_option linter.all false
set_option maxRecDepth 100000
set_option maxHeartbeats 4000000
/-! the deeds that lock, check, write back; a step -/
namespace Wk
open PySem PySem.Spec PyProof.Rows L2
section
variable {P : Program} {w : World} {K : PySem.W.Frag} {mg : Str → Option Value} {base : Heap}
local macro_rules | `(tactic| walk_at "ev") => `(tactic| first
  | exact ev_int | exact ev_str | exact ev_non | exact ev_bl | exact ev_pt0 | exact ev_ref | exact ev_var rfl
  | (refine ev_tup ?_ (sz5 (Nat.le_of_ble_eq_true rfl)); walk_at "eva")
  | (refine ev_op (d1 := .tup _) (r := rIx _) ?_ ?_ (rd_ixT' ?_ ?_); walk_at "ev"; walk_at "ev"; (first | decide | omega); (first | rfl | assumption))
  | (refine ev_op ?_ ?_ rd_int; walk_at "ev"; walk_at "ev")
  | assumption)
local macro_rules | `(tactic| walk_at "gd") => `(tactic| simp only [gdL, gdD, gd_optN, gd_optI, gd_told, gd_rs, gL_int, gL_rs, c_stamp, c_held, c_ended, Bool.and_true, Bool.true_and, Bool.and_self])
local macro_rules | `(tactic| walk_at "nf") => `(tactic| refine q_nf (by simp only [List.map_cons, List.map_nil, List.cons_append, List.nil_append, List.length_cons, List.length_nil, List.replicate_succ, List.replicate_zero, List.set_cons_succ, List.set_cons_zero, Nat.reduceAdd, Nat.reduceSub, N_is_number, N_need_hand, N_gives, N_rests, N_begins, N_reads_cell, N_retries, N_walks, N_locks_next, N_written_by, N_sure_by, N_locks, N_checks, N_woken_by, N_backs, N_step]; exact rfl) ?_)
local macro_rules | `(tactic| walk_at "eva") => `(tactic| first | exact eva_nil | (refine eva_cons ?_ ?_; walk_at "ev"; walk_at "eva"))
theorem ph_backs {r : K70.Row} : decide (phS r = "backs") = r.sure.isSome := by
  have a : decide (("new" : Str) = "backs") = false := by decide +kernel
  have b : decide (("walks" : Str) = "backs") = false := by decide +kernel
  have c : decide (("locks" : Str) = "backs") = false := by decide +kernel
  have d : decide (("checks" : Str) = "backs") = false := by decide +kernel
  have e : decide (("backs" : Str) = "backs") = true := by decide +kernel
  have f : decide (("sleeps" : Str) = "backs") = false := by decide +kernel
  have g : decide (("through" : Str) = "backs") = false := by decide +kernel
  cases r
  · exact a
  · exact b
  · exact c
  · exact d
  · exact e
  · exact f
  · exact g
/-- a hand whose pact is walked to its end -/
structure EndOk (cw : Crew) (m : Nat) (s : K70.S) (h : Nat) (rs ws : K70.RL) : Prop where
  hh : h < cw.length
  ok : CrewOk m cw
  hk : (s.rows h).k < (cw.getD h []).length
  hl : K70.LOk m rs
  ers : (s.rows h).rs = rs
  en : goesOn (prog cw h (s.rows h).k) rs = .ended ws
def R_written_by (ds : List D) (Q : D → Prop) : Prop := ∃ (cw : Crew) (m : Nat) (s : K70.S) (h : Nat) (rs ws : K70.RL), ds = [stD cw m s, .int (h : Int)] ∧ EndOk cw m s h rs ws ∧ Q = fun d => d = .tup [.tup ((toldOf (prog cw h (s.rows h).k) rs).map .int), .ptup (rsD ws)]
theorem ok_written_by (T : Txt K w mg) : FnOk P w K mg base CX0 19 T.d_written_by.f T.d_written_by.fd ["state", "hand"] (spD K R_written_by) := by
  have G_goes_on := ok_goes_on (P := P) (base := base) T
  have G_pact_of := ok_pact_of (P := P) (base := base) T
  refine fn_data T.d_written_by.F sc_written_by (fun ds Q h => by obtain ⟨_, _, _, _, _, _, rfl, _⟩ := h; rfl) fun cdv A outer s H E hr => ?_
  refine ⟨_, (pss_cons (ps_asg (pe_call G_goes_on (hr.mono (by first | decide | omega)) rfl T.d_goes_on.m T.d_goes_on.kp (b_goes_on T.d_goes_on.F) .nil pass0 (pa_cons (pe_call G_pact_of (hr.mono (by first | decide | omega)) rfl T.d_pact_of.m T.d_pact_of.kp (b_pact_of T.d_pact_of.F) .nil pass0 (pa_cons (pv 0) (pa_cons (pv 1) pa_nil))) (pa_cons (pe_ix ix_seq (pe_ix ix_seq (pe_ix ix_seq (pv 0) pe_int (fun _ _ => rfl)) (pv 1) (fun _ _ => rfl)) pe_int (fun _ _ => rfl)) pa_nil))) (pg_tup rfl (pgs_cons (pg_name (i := 2) sc_written_by.nd rfl (Or.inl rfl)) (pgs_cons (pg_name (i := 3) sc_written_by.nd rfl (Or.inl rfl)) (pgs_cons (pg_name (i := 4) sc_written_by.nd rfl (Or.inl rfl)) pgs_nil)))))
    (pss_one (ps_ret (pe_tup (pa_cons (pv 3) (pa_cons (pv 4) pa_nil)))))), fun ds Q h => ?_⟩
  obtain ⟨cw, m, st, h, rs, ws, rfl, o, rfl⟩ := h
  walk_at "nf"
  refine q_seq (q_asg (d := .tup [.str "ended", .tup ((toldOf (prog cw h (st.rows h).k) rs).map .int), .ptup (rsD ws)]) ((ev_goes rfl rfl o.hh o.hk o.ok o.hl ?_).eq (goesD_en o.en)) (gd_un3 ?_))
  · exact ev_ix (ev_row rfl rfl o.hh) (by decide) (by rw [← o.ers]; rfl)
  walk_at "nf"
  exact q_retD (d := .tup [.tup ((toldOf (prog cw h (st.rows h).k) rs).map .int), .ptup (rsD ws)]) (by walk_at "ev") rfl
def sureD (cw : Crew) (s : K70.S) (h : Nat) : D :=
  match s.rows h with
  | .backs k _ _ w rs ws _ => .tup [.int (k : Int), .int w, .tup ((toldOf (prog cw h k) rs).map .int), .ptup (rsD ws)]
  | _ => .non
theorem gd_sure {cw : Crew} {s : K70.S} {h n : Nat} : gdD (sureD cw s h) (n + 4) = true := by
  unfold sureD
  cases s.rows h <;> walk_at "gd"
def sureOk (cw : Crew) (m : Nat) (s : K70.S) (h : Nat) : Prop :=
  match s.rows h with
  | .backs k _ _ w rs ws _ => EndOk cw m s h rs ws
  | _ => True
def R_sure_by (ds : List D) (Q : D → Prop) : Prop := ∃ (cw : Crew) (m : Nat) (s : K70.S) (h : Nat), ds = [stD cw m s, .int (h : Int)] ∧ h < cw.length ∧ sureOk cw m s h ∧ Q = fun d => d = sureD cw s h
theorem ok_sure_by (T : Txt K w mg) : FnOk P w K mg base CX0 20 T.d_sure_by.f T.d_sure_by.fd ["state", "hand"] (spD K R_sure_by) := by
  have G_written_by := ok_written_by (P := P) (base := base) T
  refine fn_data T.d_sure_by.F sc_sure_by (fun ds Q h => by obtain ⟨_, _, _, _, rfl, _⟩ := h; rfl) fun cdv A outer s H E hr => ?_
  refine ⟨_, (pss_cons (ps_asg (pe_ix ix_seq (pe_ix ix_seq (pv 0) pe_int (fun _ _ => rfl)) (pv 1) (fun _ _ => rfl)) (pg_tup rfl (pgs_cons (pg_name (i := 2) sc_sure_by.nd rfl (Or.inl rfl)) (pgs_cons (pg_name (i := 3) sc_sure_by.nd rfl (Or.inl rfl)) (pgs_cons (pg_name (i := 4) sc_sure_by.nd rfl (Or.inl rfl)) (pgs_cons (pg_name (i := 5) sc_sure_by.nd rfl (Or.inl rfl)) (pgs_cons (pg_name (i := 6) sc_sure_by.nd rfl (Or.inl rfl)) (pgs_cons (pg_name (i := 7) sc_sure_by.nd rfl (Or.inl rfl)) (pgs_cons (pg_name (i := 8) sc_sure_by.nd rfl (Or.inl rfl)) pgs_nil)))))))))
    (pss_one (ps_ret (pe_ifExp (pt_cmpR op_eq (pv 3) (pe_globE rfl T.g_SURE) (nomark _)) (pe_op op_catA (pe_tup (pa_cons (pv 2) (pa_cons (pv 6) pa_nil))) (pe_call G_written_by (hr.mono (by first | decide | omega)) rfl T.d_written_by.m T.d_written_by.kp (b_written_by T.d_written_by.F) .nil pass0 (pa_cons (pv 0) (pa_cons (pv 1) pa_nil)))) pe_non)))), fun ds Q h => ?_⟩
  obtain ⟨cw, m, st, h, rfl, hh, so, rfl⟩ := h
  walk_at "nf"
  refine q_seq (q_asg (d := rowD (st.rows h)) (ev_row rfl rfl hh) (gd_un7 ?_))
  walk_at "nf"
  refine q_retD (d := sureD cw st h) (ev_if (b := decide (phS (st.rows h) = "backs")) (ev_isEqS (ev_var rfl) ev_str) (fun b => ?_) fun b => ?_) rfl
  · have b := of_decide_eq_true b
    cases er : st.rows h with
    | backs k t r wv rs ws d =>
      unfold sureOk at so
      simp only [er] at so
      unfold sureD
      simp only [er]
      refine (ev_op (d1 := .tup [.int (k : Int), .int wv]) (d2 := .tup [.tup ((toldOf (prog cw h (st.rows h).k) rs).map .int), .ptup (rsD ws)]) (by walk_at "ev") (ev_call (eva_cons (ev_var rfl) (eva_cons (ev_var rfl) eva_nil)) ⟨cw, m, st, h, rs, ws, rfl, so, rfl⟩ fun _ e => e) (rd_cat (sz5 (Nat.le_of_ble_eq_true rfl)))).eq ?_
      rw [er]; rfl
    | _ => rw [er] at b; have z := ph_backs (r := st.rows h); rw [er, decide_eq_true b] at z; cases z
  · have b := of_decide_eq_false b
    cases er : st.rows h with
    | backs k t r wv rs ws d => rw [er] at b; exact (b rfl).elim
    | _ => unfold sureD; simp only [er]; exact ev_non
theorem q_imp {Γ : Gm} {t : TS} {nx : Gm → Prop} {rt : D → Prop} (nx' : Gm → Prop) (h : QS K t Γ nx' rt) (hn : ∀ Γ, nx' Γ → nx Γ) : QS K t Γ nx rt := QS.imp h hn fun _ r => r
def isLocks : K70.Row → Prop | .locks _ _ _ _ _ _ => True | _ => False
theorem ok_locks (T : Txt K w mg) : FnOk P w K mg base CX0 21 T.d_locks.f T.d_locks.fd ["state", "hand"] (spD K (R_deed isLocks)) := by
  have G_written_by := ok_written_by (P := P) (base := base) T
  have G_sure_by := ok_sure_by (P := P) (base := base) T
  have G_locks_next := ok_locks_next (P := P) (base := base) T
  have G_with_row := ok_with_row (P := P) (base := base) T
  refine fn_data T.d_locks.F sc_locks (fun ds Q h => by obtain ⟨_, _, _, _, rfl, _⟩ := h; rfl) fun cdv A outer s H E hr => ?_
  refine ⟨_, (pss_cons (ps_asg (pv 0) (pg_tup rfl (pgs_cons (pg_name (i := 2) sc_locks.nd rfl (Or.inl rfl)) (pgs_cons (pg_name (i := 3) sc_locks.nd rfl (Or.inl rfl)) (pgs_cons (pg_name (i := 4) sc_locks.nd rfl (Or.inl rfl)) (pgs_cons (pg_name (i := 5) sc_locks.nd rfl (Or.inl rfl)) (pgs_cons (pg_name (i := 6) sc_locks.nd rfl (Or.inl rfl)) pgs_nil)))))))
    (pss_cons (ps_asg (pe_ix ix_seq (pv 6) (pv 1) (fun _ _ => rfl)) (pg_tup rfl (pgs_cons (pg_name (i := 7) sc_locks.nd rfl (Or.inl rfl)) (pgs_cons (pg_name (i := 8) sc_locks.nd rfl (Or.inl rfl)) (pgs_cons (pg_name (i := 9) sc_locks.nd rfl (Or.inl rfl)) (pgs_cons (pg_name (i := 10) sc_locks.nd rfl (Or.inl rfl)) (pgs_cons (pg_name (i := 11) sc_locks.nd rfl (Or.inl rfl)) (pgs_cons (pg_name (i := 12) sc_locks.nd rfl (Or.inl rfl)) (pgs_cons (pg_name (i := 13) sc_locks.nd rfl (Or.inl rfl)) pgs_nil)))))))))
    (pss_cons (ps_asg (pe_call G_written_by (hr.mono (by first | decide | omega)) rfl T.d_written_by.m T.d_written_by.kp (b_written_by T.d_written_by.F) .nil pass0 (pa_cons (pv 0) (pa_cons (pv 1) pa_nil))) (pg_tup rfl (pgs_cons (pg_name (i := 14) sc_locks.nd rfl (Or.inl rfl)) (pgs_cons (pg_name (i := 15) sc_locks.nd rfl (Or.inl rfl)) pgs_nil))))
    (pss_cons (ps_if (pt_cmpR op_lt (pv 13) (pe_callB call_len_seq (by rfl) T.z_len PySem.boot_len (pa_cons (pv 15) pa_nil)) (nomark _)) (pss_one (ps_ret (pe_call G_locks_next (hr.mono (by first | decide | omega)) rfl T.d_locks_next.m T.d_locks_next.kp (b_locks_next T.d_locks_next.F) .nil pass0 (pa_cons (pv 0) (pa_cons (pv 1) (pa_cons (pv 15) pa_nil)))))) pss_nil)
    (pss_cons (ps_set (i := 16) sc_locks.nd rfl (Or.inl rfl) (pe_tup (pa_cons (pv 7) (pa_cons (pe_ifExp (pt_cmpR (op_neD hr.units) (pv 12) pe_pt0 (nomark _)) pe_str (pe_globE rfl T.g_SURE)) (pa_cons (pv 9) (pa_cons (pv 10) (pa_cons (pe_op op_add (pv 3) pe_int) (pa_cons (pv 12) (pa_cons pe_int pa_nil)))))))))
    (pss_cons (ps_set (i := 17) sc_locks.nd rfl (Or.inl rfl) (pe_call G_with_row (hr.mono (by first | decide | omega)) rfl T.d_with_row.m T.d_with_row.kp (b_with_row T.d_with_row.F) .nil pass0 (pa_cons (pe_tup (pa_cons (pv 2) (pa_cons (pe_op op_add (pv 3) pe_int) (pa_cons (pv 4) (pa_cons (pv 5) (pa_cons (pv 6) pa_nil)))))) (pa_cons (pv 1) (pa_cons (pv 16) pa_nil)))))
    (pss_one (ps_ret (pe_tup (pa_cons (pv 17) (pa_cons (pe_tup (pa_cons (pv 1) (pa_cons pe_str (pa_cons (pe_op op_add (pv 3) pe_int) (pa_cons (pe_call G_sure_by (hr.mono (by first | decide | omega)) rfl T.d_sure_by.m T.d_sure_by.kp (b_sure_by T.d_sure_by.F) .nil pass0 (pa_cons (pv 17) (pa_cons (pv 1) pa_nil))) pa_nil))))) pa_nil))))))))))), fun ds Q h => ?_⟩
  obtain ⟨cw, m, st, h, rfl, hh, cx, hc, rfl⟩ := h
  cases er : st.rows h with
  | locks k t r rs ws d =>
    have ro := cx.inv.row h hh
    rw [er] at ro
    obtain ⟨r1, r2, r3, r4⟩ := ro
    have hl : K70.LOk m rs := by have := cx.inv.rsOk h hh; rw [er] at this; exact this
    have hw := (crew_ok cx.ok).en h k rs ws r2
    have eo : EndOk cw m st h rs ws := ⟨hh, cx.ok, by rw [er]; exact r1, hl, by rw [er]; rfl, by rw [er]; exact r2⟩
    walk_at "nf"
    refine q_seq (q_asg (d := stD cw m st) (ev_var rfl) (gd_un5 ?_))
    walk_at "nf"
    refine q_seq (q_asg (d := .tup [.int (k : Int), .str "locks", .int t, .int r, .non, .ptup (rsD rs), .int (d : Int)]) ((ev_ixv (d := rowD (st.rows h)) (ev_var rfl) rfl (rowsL_get hh)).eq (by rw [er]; rfl)) (gd_un7 ?_))
    walk_at "nf"
    refine q_seq (q_asg (d := .tup [.tup ((toldOf (prog cw h (st.rows h).k) rs).map .int), .ptup (rsD ws)]) (ev_call (eva_cons (ev_var rfl) (eva_cons (ev_var rfl) eva_nil)) ⟨cw, m, st, h, rs, ws, rfl, eo, rfl⟩ fun _ e => e) (gd_un2 ?_))
    walk_at "nf"
    have step : K70.step (crewP cw m) st h = if d < ws.length then K70.lockNext st h k t r rs ws d else ({ st with clock := st.clock + 1, rows := K70.upd st.rows h (if rs = [] then .backs k t r (st.clock + 1) rs ws 0 else .checks k t r (st.clock + 1) rs ws 0) }, true) := by
      unfold K70.step; simp only [er]
    have elen : (rsD ws).length = ws.length := by unfold rsD; rw [List.length_map]
    refine q_seq (q_if (b := decide ((d : Int) < ((rsD ws).length : Int))) (eb_test (ev_op (ev_var rfl) (ev_cb (eva_cons (ev_pt (ev_var rfl)) eva_nil) rc_lenT) rd_bl)) (fun b => ?_) fun b => q_next ?_)
    · have b := of_decide_eq_true b
      rw [elen] at b
      have b : d < ws.length := by omega
      refine q_ret (evp_call (eva_cons (ev_var rfl) (eva_cons (ev_var rfl) (eva_cons (ev_var rfl) eva_nil))) ⟨cw, m, st, h, k, t, r, rs, ws, d, "locks", ws[d], rfl, hh, cx.sz, by rw [er]; rfl, List.getElem?_eq_getElem b, hw.lt _ (List.getElem_mem b), rfl⟩) fun d e => ?_
      rw [step, if_pos b]; exact e
    · have b := of_decide_eq_false b
      rw [elen] at b
      have b : ¬ d < ws.length := by omega
      have eph : ∀ b : Bool, b = (!(rsD rs).isEmpty) → phS (if rs = [] then K70.Row.backs k t r (st.clock + 1) rs ws 0 else .checks k t r (st.clock + 1) rs ws 0) = if b = true then "checks" else "backs" := fun b e => by
        subst e; cases rs <;> rfl
      refine q_seq (q_set (d := rowD (if rs = [] then .backs k t r (st.clock + 1) rs ws 0 else .checks k t r (st.clock + 1) rs ws 0)) ?_ ?_)
      · refine (ev_tup (ds := [.int (k : Int), .str (phS (if rs = [] then K70.Row.backs k t r (st.clock + 1) rs ws 0 else .checks k t r (st.clock + 1) rs ws 0)), .int t, .int r, .int (st.clock + 1), .ptup (rsD rs), .int 0]) (eva_cons (ev_var rfl) (eva_cons ?_ (eva_cons (ev_var rfl) (eva_cons (ev_var rfl) (eva_cons (ev_op (ev_var rfl) ev_int rd_int) (eva_cons (ev_var rfl) (eva_cons ev_int eva_nil))))))) (sz5 (Nat.le_of_ble_eq_true rfl))).eq ?_
        · refine ev_if (b := !(rsD rs).isEmpty) (eb_test (ev_op (ev_var rfl) ev_pt0 (rd_neP rs_gd (by decide)))) (fun b => ?_) fun b => ?_
          · rw [eph _ rfl, if_pos b]; exact ev_str
          · rw [eph _ rfl, if_neg (by rw [b]; exact Bool.false_ne_true)]; exact ev_str
        · cases rs <;> rfl
      walk_at "nf"
      refine q_seq (q_set (d := stD cw m { st with clock := st.clock + 1, rows := K70.upd st.rows h (if rs = [] then .backs k t r (st.clock + 1) rs ws 0 else .checks k t r (st.clock + 1) rs ws 0) }) ?_ ?_)
      · refine ev_call (ds := [stD cw m { st with clock := st.clock + 1 }, .int (h : Int), rowD (if rs = [] then .backs k t r (st.clock + 1) rs ws 0 else .checks k t r (st.clock + 1) rs ws 0)]) (eva_cons ?_ (eva_cons (ev_var rfl) (eva_cons (ev_var rfl) eva_nil))) ⟨cw, m, { st with clock := st.clock + 1 }, h, _, rfl, hh, cx.sz, rfl⟩ fun _ e => e
        unfold stD
        exact ev_tup (eva_cons (ev_var rfl) (eva_cons (ev_op (ev_var rfl) ev_int rd_int) (eva_cons (ev_var rfl) (eva_cons (ev_var rfl) (eva_cons (ev_var rfl) eva_nil))))) (sz5 (Nat.le_of_ble_eq_true rfl))
      walk_at "nf"
      refine q_retD (d := .tup [stD cw m { st with clock := st.clock + 1, rows := K70.upd st.rows h (if rs = [] then .backs k t r (st.clock + 1) rs ws 0 else .checks k t r (st.clock + 1) rs ws 0) }, .tup [.int (h : Int), .str "clock", .int (st.clock + 1), sureD cw { st with clock := st.clock + 1, rows := K70.upd st.rows h (if rs = [] then .backs k t r (st.clock + 1) rs ws 0 else .checks k t r (st.clock + 1) rs ws 0) } h]]) (ev_told (ev_var rfl) (eva_cons (ev_var rfl) (eva_cons ev_str (eva_cons (ev_op (ev_var rfl) ev_int rd_int) (eva_cons ?_ eva_nil)))) (Nat.le_of_ble_eq_true rfl)) (told_yes ?_ (by decide +kernel) (by decide +kernel) (by simp only [gdL, gdD, gd_sure]; rfl))
      · refine ev_call (eva_cons (ev_var rfl) (eva_cons (ev_var rfl) eva_nil)) ⟨cw, m, _, h, rfl, hh, ?_, rfl⟩ fun _ e => e
        unfold sureOk
        simp only [K70.upd_same]
        cases rs with
        | nil => exact ⟨hh, cx.ok, by simp only [K70.upd_same]; exact r1, hl, by simp only [K70.upd_same]; rfl, by simp only [K70.upd_same]; exact r2⟩
        | cons a b => trivial
      · rw [step, if_neg b]
  | _ => rw [er] at hc; exact hc.elim
def isChecks : K70.Row → Prop | .checks _ _ _ _ _ _ _ => True | _ => False
theorem ok_checks (T : Txt K w mg) : FnOk P w K mg base CX0 21 T.d_checks.f T.d_checks.fd ["state", "hand"] (spD K (R_deed isChecks)) := by
  have G_sure_by := ok_sure_by (P := P) (base := base) T
  have G_gives := ok_gives (P := P) (base := base) T
  have G_given_up := ok_given_up (P := P) (base := base) T
  have G_with_row := ok_with_row (P := P) (base := base) T
  refine fn_data T.d_checks.F sc_checks (fun ds Q h => by obtain ⟨_, _, _, _, rfl, _⟩ := h; rfl) fun cdv A outer s H E hr => ?_
  refine ⟨_, (pss_cons (ps_asg (pe_ix ix_seq (pe_ix ix_seq (pv 0) pe_int (fun _ _ => rfl)) (pv 1) (fun _ _ => rfl)) (pg_tup rfl (pgs_cons (pg_name (i := 2) sc_checks.nd rfl (Or.inl rfl)) (pgs_cons (pg_name (i := 3) sc_checks.nd rfl (Or.inl rfl)) (pgs_cons (pg_name (i := 4) sc_checks.nd rfl (Or.inl rfl)) (pgs_cons (pg_name (i := 5) sc_checks.nd rfl (Or.inl rfl)) (pgs_cons (pg_name (i := 6) sc_checks.nd rfl (Or.inl rfl)) (pgs_cons (pg_name (i := 7) sc_checks.nd rfl (Or.inl rfl)) (pgs_cons (pg_name (i := 8) sc_checks.nd rfl (Or.inl rfl)) pgs_nil)))))))))
    (pss_cons (ps_set (i := 9) sc_checks.nd rfl (Or.inl rfl) (pe_ix ix_seq (pe_ix ix_seq (pv 7) (pv 8) (fun _ _ => rfl)) pe_int (fun _ _ => rfl)))
    (pss_cons (ps_asg (pe_ix ix_seq (pe_ix ix_seq (pv 0) pe_int (fun _ _ => rfl)) (pv 9) (fun _ _ => rfl)) (pg_tup rfl (pgs_cons (pg_name (i := 10) sc_checks.nd rfl (Or.inl rfl)) (pgs_cons (pg_name (i := 11) sc_checks.nd rfl (Or.inl rfl)) (pgs_cons (pg_name (i := 12) sc_checks.nd rfl (Or.inl rfl)) pgs_nil)))))
    (pss_cons (ps_if (pt_cmpR op_gt (pv 11) (pv 5) (nomark _)) (pss_one (ps_ret (pe_call G_gives (hr.mono (by first | decide | omega)) rfl T.d_gives.m T.d_gives.kp (b_gives T.d_gives.F) .nil pass0 (pa_cons (pv 0) (pa_cons (pv 1) (pa_cons (pe_tup (pa_cons pe_str (pa_cons (pv 9) pa_nil))) pa_nil)))))) pss_nil)
    (pss_cons (ps_set (i := 13) sc_checks.nd rfl (Or.inl rfl) (pe_ifExp (pt_cmpR op_eq (pv 12) (pv 1) (nomark _)) pe_non (pv 12)))
    (pss_cons (ps_if (pt_cmpR op_notN (pv 13) pe_non (nomark _)) (pss_cons (ps_if (PW.pt (pw_or (pt_cmpR op_eq (pe_ix ix_seq (pe_ix ix_seq (pe_ix ix_seq (pv 0) pe_int (fun _ _ => rfl)) (pv 13) (fun _ _ => rfl)) pe_int (fun _ _ => rfl)) (pe_globE rfl T.g_SURE) (nomark _)) (pw_or1 (pt_cmpR op_lt (pe_ix ix_seq (pe_ix ix_seq (pe_ix ix_seq (pv 0) pe_int (fun _ _ => rfl)) (pv 13) (fun _ _ => rfl)) pe_int (fun _ _ => rfl)) (pv 4) (nomark _))))) (pss_one (ps_ret (pe_call G_gives (hr.mono (by first | decide | omega)) rfl T.d_gives.m T.d_gives.kp (b_gives T.d_gives.F) .nil pass0 (pa_cons (pv 0) (pa_cons (pv 1) (pa_cons (pe_tup (pa_cons pe_str (pa_cons (pv 9) (pa_cons (pv 13) pa_nil)))) pa_nil)))))) pss_nil)
    (pss_one (ps_set (i := 0) sc_checks.nd rfl (Or.inl rfl) (pe_call G_given_up (hr.mono (by first | decide | omega)) rfl T.d_given_up.m T.d_given_up.kp (b_given_up T.d_given_up.F) .nil pass0 (pa_cons (pv 0) (pa_cons (pv 13) pa_nil)))))) pss_nil)
    (pss_cons (ps_set (i := 14) sc_checks.nd rfl (Or.inl rfl) (pe_cmpR op_eq (pe_op op_add (pv 8) pe_int) (pe_callB call_len_seq (by rfl) T.z_len PySem.boot_len (pa_cons (pv 7) pa_nil)) (nomark _)))
    (pss_cons (ps_set (i := 15) sc_checks.nd rfl (Or.inl rfl) (pe_tup (pa_cons (pv 2) (pa_cons (pe_ifExp (pt_val (pv 14)) (pe_globE rfl T.g_SURE) (pv 3)) (pa_cons (pv 4) (pa_cons (pv 5) (pa_cons (pv 6) (pa_cons (pv 7) (pa_cons (pe_ifExp (pt_val (pv 14)) pe_int (pe_op op_add (pv 8) pe_int)) pa_nil)))))))))
    (pss_cons (ps_set (i := 16) sc_checks.nd rfl (Or.inl rfl) (pe_call G_with_row (hr.mono (by first | decide | omega)) rfl T.d_with_row.m T.d_with_row.kp (b_with_row T.d_with_row.F) .nil pass0 (pa_cons (pv 0) (pa_cons (pv 1) (pa_cons (pv 15) pa_nil)))))
    (pss_one (ps_ret (pe_tup (pa_cons (pv 16) (pa_cons (pe_tup (pa_cons (pv 1) (pa_cons pe_str (pa_cons (pv 9) (pa_cons (pv 13) (pa_cons (pe_call G_sure_by (hr.mono (by first | decide | omega)) rfl T.d_sure_by.m T.d_sure_by.kp (b_sure_by T.d_sure_by.F) .nil pass0 (pa_cons (pv 16) (pa_cons (pv 1) pa_nil))) pa_nil)))))) pa_nil)))))))))))))), fun ds Q h => ?_⟩
  obtain ⟨cw, m, st, h, rfl, hh, cx, hc, rfl⟩ := h
  cases er : st.rows h with
  | checks k t r wv rs ws d =>
    have ro := cx.inv.row h hh
    rw [er] at ro
    obtain ⟨r1, r2, r3, r4⟩ := ro
    have hl : K70.LOk m rs := by have := cx.inv.rsOk h hh; rw [er] at this; exact this
    obtain ⟨q, hq⟩ : ∃ q, rs[d]? = some q := ⟨rs[d], List.getElem?_eq_getElem r3⟩
    have hqm := hl.lt q (List.mem_of_getElem? hq)
    have elen : (rsD rs).length = rs.length := by unfold rsD; rw [List.length_map]
    walk_at "nf"
    refine q_seq (q_asg (d := .tup [.int (k : Int), .str "checks", .int t, .int r, .int wv, .ptup (rsD rs), .int (d : Int)]) ((ev_row rfl rfl hh).eq (by rw [er]; rfl)) (gd_un7 ?_))
    walk_at "nf"
    refine q_seq (q_set (d := .int (q.1 : Int)) (ev_ix (ev_ixP (ev_var rfl) rfl (rsD_get hq)) (by decide) rfl) ?_)
    walk_at "nf"
    refine q_seq (q_asg (d := cellD (st.cells q.1)) (ev_cell rfl rfl hqm) (gd_un3 ?_))
    walk_at "nf"
    refine q_seq (q_if (b := decide (r < (st.cells q.1).stamp)) (eb_test (ev_op (ev_var rfl) (ev_var rfl) rd_gt)) (fun b => ?_) fun b => q_next ?_)
    · have b := of_decide_eq_true b
      refine q_ret (evp_call (eva_cons (ev_var rfl) (eva_cons (ev_var rfl) (eva_cons (d := .tup [.str "stamp", .int (q.1 : Int)]) (by walk_at "ev") eva_nil))) ⟨cw, m, st, h, _, rfl, hh, cx.sz, (by walk_at "gd"), rfl⟩) fun d e => ?_
      have : K70.step (crewP cw m) st h = (K70.giveUp (crewP cw m) st h, true) := by
        unfold K70.step; simp only [er, hq]; rw [if_pos b]
      rw [this]; exact e
    have b := of_decide_eq_false b
    have step : K70.step (crewP cw m) st h = match (if (st.cells q.1).holder = some h then none else (st.cells q.1).holder) with
        | none => (K70.adv st h k t r wv rs ws d, true)
        | some o => if (st.rows o).sure.isSome || K70.tkLt (st.rows o).tk t then (K70.giveUp (crewP cw m) st h, true) else (K70.adv (K70.giveUp (crewP cw m) st o) h k t r wv rs ws d, true) := by
      unfold K70.step; simp only [er, hq]; rw [if_neg b]
      cases ho : (st.cells q.1).holder with
      | none => simp
      | some o => by_cases e : o = h <;> simp [e]
    refine q_seq (q_set (d := optN (if (st.cells q.1).holder = some h then none else (st.cells q.1).holder)) ?_ ?_)
    · cases ho : (st.cells q.1).holder with
      | none => 
        simp only [reduceCtorEq, if_false]
        exact ev_if (b := false) ((eb_test (ev_op (d1 := .non) (d2 := .int (h : Int)) (ev_var rfl) (ev_var rfl) (rd_eq rfl rfl rfl))).eq (decide_eq_false fun z => nomatch z)) (fun z => by cases z) (fun _ => ev_var rfl)
      | some o =>
        refine ev_if (eb_test (ev_op (d1 := .int (o : Int)) (d2 := .int (h : Int)) (ev_var rfl) (ev_var rfl) (rd_eq rfl rfl rfl))) (fun z => ?_) (fun z => ?_)
        · have z := V.int.inj (of_decide_eq_true z)
          rw [if_pos (by congr 1; omega)]; exact ev_non
        · have z : ¬ V.int (o : Int) = V.int (h : Int) := of_decide_eq_false z
          rw [if_neg (fun y => z (by rw [Option.some.inj y]))]; exact ev_var rfl
    walk_at "nf"
    generalize ho' : (if (st.cells q.1).holder = some h then none else (st.cells q.1).holder) = oth at step
    have hoth : ∀ o, oth = some o → o ≠ h ∧ (st.cells q.1).holder = some o := fun o e => by
      subst e
      split at ho'
      · cases ho'
      · rename_i n; exact ⟨fun z => n (by rw [ho', z]), ho'⟩
    refine q_seq (q_imp (fun Γ => ∃ s1 : K70.S, Γ = [some (stD cw m s1), some (.int (h : Int)), some (.int (k : Int)), some (.str "checks"), some (.int t), some (.int r), some (.int wv), some (.ptup (rsD rs)), some (.int (d : Int)), some (.int (q.1 : Int)), some (.int (st.cells q.1).num), some (.int (st.cells q.1).stamp), some (optN (st.cells q.1).holder), some (optN oth), none, none, none] ∧
      K70.step (crewP cw m) st h = (K70.adv s1 h k t r wv rs ws d, true)) ?_ ?_)
    · cases oth with
      | none =>
        refine q_if (b := false) (eb_notN (d := .non) (ev_var rfl)) (fun c => by cases c) fun _ => q_next ⟨st, rfl, step⟩
      | some o =>
        obtain ⟨o1, o2⟩ := hoth o rfl
        obtain ⟨oh, oheld⟩ := (cx.inv.hold q.1 hqm o).mp o2
        have oh : o < cw.length := oh
        obtain ⟨t', et⟩ : ∃ t', (st.rows o).tk = some t' := by
          cases eo : st.rows o <;> rw [eo] at oheld <;> first | exact ⟨_, rfl⟩ | simp [K70.Row.held] at oheld
        have ephs : decide (phS (st.rows o) = "backs") = (st.rows o).sure.isSome := ph_backs
        refine q_if (b := true) (eb_notN (d := .int (o : Int)) (ev_var rfl)) (fun _ => ?_) fun c => by cases c
        refine q_seq (q_if (b := (st.rows o).sure.isSome || K70.tkLt (st.rows o).tk t) ?_ (fun c => ?_) fun c => q_next ?_)
        · refine eb_or ((ev_isEqS (ev_ix (ev_row (h := o) rfl rfl oh) (by decide) rfl) ev_str).eq ephs) fun _ => ?_
          refine (eb_test (ev_op (d1 := .int t') (d2 := .int t) (ev_ix (ev_row (h := o) rfl rfl oh) (by decide) (by show some (optI (st.rows o).tk) = _; rw [et]; rfl)) (ev_var rfl) rd_bl)).eq ?_
          rw [et]; rfl
        · refine q_ret (evp_call (eva_cons (ev_var rfl) (eva_cons (ev_var rfl) (eva_cons (d := .tup [.str "held", .int (q.1 : Int), .int (o : Int)]) (by walk_at "ev") eva_nil))) ⟨cw, m, st, h, _, rfl, hh, cx.sz, (by walk_at "gd"), rfl⟩) fun d e => ?_
          have : K70.step (crewP cw m) st h = (K70.giveUp (crewP cw m) st h, true) := by rw [step]; simp only [c, if_true]
          rw [this]; exact e
        · refine q_set (d := stD cw m (K70.giveUp (crewP cw m) st o)) (ev_call (eva_cons (ev_var rfl) (eva_cons (ev_var rfl) eva_nil)) ⟨cw, m, st, o, rfl, oh, cx.sz, rfl⟩ fun _ e => e) ⟨_, rfl, ?_⟩
          rw [step]; simp only [c]; rfl
    · rintro Γ ⟨s1, rfl, step⟩
      refine q_seq (q_set (d := .bl (decide (d + 1 = rs.length))) ?_ ?_)
      · refine (ev_op (d1 := .int ((d : Int) + 1)) (d2 := .int ((rsD rs).length : Int)) (ev_op (ev_var rfl) ev_int rd_int) (ev_cb (eva_cons (ev_pt (ev_var rfl)) eva_nil) rc_lenT) (rd_eq rfl rfl rfl)).eq ?_
        rw [elen]
        congr 1
        refine decide_eq_decide.mpr ⟨fun e => ?_, fun e => ?_⟩
        · have := V.int.inj e; omega
        · congr 1; omega
      walk_at "nf"
      refine q_seq (q_set (d := rowD (if d + 1 = rs.length then .backs k t r wv rs ws 0 else .checks k t r wv rs ws (d + 1))) ?_ ?_)
      · by_cases e : d + 1 = rs.length
        · rw [if_pos e]
          refine ev_tup (eva_cons (ev_var rfl) (eva_cons (d := .str "backs") (ev_if (b := true) ((eb_B (ev_var rfl)).eq (decide_eq_true e)) (fun _ => ev_str) fun c => by cases c) (eva_cons (ev_var rfl) (eva_cons (ev_var rfl) (eva_cons (ev_var rfl) (eva_cons (ev_var rfl) (eva_cons (d := .int 0) (ev_if (b := true) ((eb_B (ev_var rfl)).eq (decide_eq_true e)) (fun _ => ev_int) fun c => by cases c) eva_nil))))))) (sz5 (Nat.le_of_ble_eq_true rfl))
        · rw [if_neg e]
          refine ev_tup (eva_cons (ev_var rfl) (eva_cons (d := .str "checks") (ev_if (b := false) ((eb_B (ev_var rfl)).eq (decide_eq_false e)) (fun c => by cases c) fun _ => ev_var rfl) (eva_cons (ev_var rfl) (eva_cons (ev_var rfl) (eva_cons (ev_var rfl) (eva_cons (ev_var rfl) (eva_cons (d := .int ((d : Int) + 1)) (ev_if (b := false) ((eb_B (ev_var rfl)).eq (decide_eq_false e)) (fun c => by cases c) fun _ => ev_op (ev_var rfl) ev_int rd_int) eva_nil))))))) (sz5 (Nat.le_of_ble_eq_true rfl))
      walk_at "nf"
      refine q_seq (q_set (d := stD cw m (K70.adv s1 h k t r wv rs ws d)) ?_ ?_)
      · exact ev_call (eva_cons (ev_var rfl) (eva_cons (ev_var rfl) (eva_cons (ev_var rfl) eva_nil))) ⟨cw, m, s1, h, _, rfl, hh, cx.sz, rfl⟩ fun _ e => e
      walk_at "nf"
      refine q_retD (d := .tup [stD cw m (K70.adv s1 h k t r wv rs ws d), .tup [.int (h : Int), .str "checks", .int (q.1 : Int), optN oth, sureD cw (K70.adv s1 h k t r wv rs ws d) h]]) (ev_told (ev_var rfl) (eva_cons (ev_var rfl) (eva_cons ev_str (eva_cons (ev_var rfl) (eva_cons (ev_var rfl) (eva_cons ?_ eva_nil))))) (Nat.le_of_ble_eq_true rfl)) (told_yes step (by decide +kernel) (by decide +kernel) (by simp only [gdL, gdD, gd_sure, gd_optN]; rfl))
      refine ev_call (eva_cons (ev_var rfl) (eva_cons (ev_var rfl) eva_nil)) ⟨cw, m, _, h, rfl, hh, ?_, rfl⟩ fun _ e => e
      unfold sureOk K70.adv
      simp only [K70.upd_same]
      by_cases e : d + 1 = rs.length
      · rw [if_pos e]
        exact ⟨hh, cx.ok, by simp only [K70.upd_same]; exact r1, hl, by simp only [K70.upd_same]; rfl, by simp only [K70.upd_same]; exact r2⟩
      · rw [if_neg e]; trivial
  | _ => rw [er] at hc; exact hc.elim
end
end Wk
set_option Elab.async false
set_option linter.all false
set_option maxRecDepth 100000
set_option maxHeartbeats 4000000
/-! writing back, waking; a step -/
namespace Wk
open PySem PySem.Spec PyProof.Rows L2
section
variable {P : Program} {w : World} {K : PySem.W.Frag} {mg : Str → Option Value} {base : Heap}
local macro_rules | `(tactic| walk_at "ev") => `(tactic| first
  | exact ev_int | exact ev_str | exact ev_non | exact ev_bl | exact ev_pt0 | exact ev_ref | exact ev_var rfl
  | (refine ev_tup ?_ (sz5 (Nat.le_of_ble_eq_true rfl)); walk_at "eva")
  | (refine ev_op (d1 := .tup _) (r := rIx _) ?_ ?_ (rd_ixT' ?_ ?_); walk_at "ev"; walk_at "ev"; (first | decide | omega); (first | rfl | assumption))
  | (refine ev_op ?_ ?_ rd_int; walk_at "ev"; walk_at "ev")
  | assumption)
local macro_rules | `(tactic| walk_at "gd") => `(tactic| simp only [gdL, gdD, gd_optN, gd_optI, gd_told, gd_rs, gL_int, gL_rs, c_stamp, c_held, c_ended, Bool.and_true, Bool.true_and, Bool.and_self])
local macro_rules | `(tactic| walk_at "nf") => `(tactic| refine q_nf (by simp only [List.map_cons, List.map_nil, List.cons_append, List.nil_append, List.length_cons, List.length_nil, List.replicate_succ, List.replicate_zero, List.set_cons_succ, List.set_cons_zero, Nat.reduceAdd, Nat.reduceSub, N_is_number, N_need_hand, N_gives, N_rests, N_begins, N_reads_cell, N_retries, N_walks, N_locks_next, N_written_by, N_sure_by, N_locks, N_checks, N_woken_by, N_backs, N_step]; exact rfl) ?_)
local macro_rules | `(tactic| walk_at "eva") => `(tactic| first | exact eva_nil | (refine eva_cons ?_ ?_; walk_at "ev"; walk_at "eva"))
theorem ph_sleeps {r : K70.Row} : decide (phS r = "sleeps") = (match r with | .sleeps _ _ _ _ => true | _ => false) := by
  have a : decide (("new" : Str) = "sleeps") = false := by decide +kernel
  have b : decide (("walks" : Str) = "sleeps") = false := by decide +kernel
  have c : decide (("locks" : Str) = "sleeps") = false := by decide +kernel
  have d : decide (("checks" : Str) = "sleeps") = false := by decide +kernel
  have e : decide (("backs" : Str) = "sleeps") = false := by decide +kernel
  have f : decide (("sleeps" : Str) = "sleeps") = true := by decide +kernel
  have g : decide (("through" : Str) = "sleeps") = false := by decide +kernel
  cases r
  · exact a
  · exact b
  · exact c
  · exact d
  · exact e
  · exact f
  · exact g
mutual
theorem gd_up : ∀ {d : D} {n : Nat}, gdD d n = true → gdD d (n + 1) = true
  | .non, _, _ => rfl
  | .bl _, _, _ => rfl
  | .int _, _, _ => rfl
  | .str _, _, h => by simp only [gdD] at h ⊢; exact h
  | .tup ds, 0, h => by simp [gdD] at h
  | .tup ds, n + 1, h => by simp only [gdD] at h ⊢; exact gdL_up h
  | .ptup ds, 0, h => by simp [gdD] at h
  | .ptup ds, n + 1, h => by simp only [gdD] at h ⊢; exact gdL_up h
  | .lst _, _, h => by simp [gdD] at h
  | .ref _, _, h => by simp [gdD] at h
  | .dct _, _, h => by simp [gdD] at h
theorem gdL_up : ∀ {ds : List D} {n : Nat}, gdL ds n = true → gdL ds (n + 1) = true
  | [], _, _ => rfl
  | d :: ds, n, h => by
    simp only [gdL, Bool.and_eq_true] at h ⊢
    exact ⟨gd_up h.1, gdL_up h.2⟩
end
def wakeL (cw : Crew) (s : K70.S) (c : Nat) : List Nat := (List.range cw.length).filter fun i => K70.wakes c (s.rows i)
theorem look_some {l : K70.RL} {c : Nat} : (look (rsK l) (.inl (c : Int))).isSome = decide (c ∈ l.map (·.1)) := by
  induction l with
  | nil => rfl
  | cons q l ih =>
    unfold look at ih ⊢
    rw [rsK_cons]
    by_cases e : q.1 = c
    · rw [List.find?_cons_of_pos (by simp [e])]
      simp [e]
    · rw [List.find?_cons_of_neg (by simp; omega), ih]
      refine decide_eq_decide.mpr ?_
      rw [List.map_cons, List.mem_cons]
      exact ⟨fun z => .inr z, fun z => z.resolve_left fun y => e y.symm⟩
theorem fm_filter {f : Nat → Bool} : ∀ l : List Nat, (l.filterMap fun i => if f i = true then some (D.int (i : Int)) else none) = (l.filter f).map fun i : Nat => D.int (i : Int)
  | [] => rfl
  | i :: l => by
    by_cases e : f i = true
    · simp [e, fm_filter l]
    · simp [e, fm_filter l]
theorem rowNew_idem {n k : Nat} {tk : Option Int} : K70.rowNew n (K70.rowNew n k tk).k (K70.rowNew n k tk).tk = K70.rowNew n k tk := by
  unfold K70.rowNew
  by_cases e : k = n
  · rw [if_pos e]; show (if k = n then _ else _) = _; rw [if_pos e]; rfl
  · rw [if_neg e]; show (if k = n then _ else _) = _; rw [if_neg e]; rfl
def R_woken_by (ds : List D) (Q : D → Prop) : Prop := ∃ (cw : Crew) (m : Nat) (s : K70.S) (c : Nat), ds = [stD cw m s, .int (c : Int)] ∧ Sz cw m ∧ (∀ h, h < cw.length → K70.LOk m (s.rows h).rs) ∧ Q = fun d => d = .lst ((wakeL cw s c).map fun i : Nat => D.int (i : Int))
theorem ok_woken_by (T : Txt K w mg) : FnOk P w K mg base CX0 1 T.d_woken_by.f T.d_woken_by.fd ["state", "cell"] (spD K R_woken_by) := by
  refine fn_data T.d_woken_by.F sc_woken_by (fun ds Q h => by obtain ⟨_, _, _, _, rfl, _⟩ := h; rfl) fun cdv A outer s H E hr => ?_
  have hu := hu_of hr
  refine ⟨_, (pss_cons (ps_set (i := 2) sc_woken_by.nd rfl (Or.inr rfl) (pe_ix ix_seq (pv 0) pe_int (fun _ _ => rfl)))
    (pss_one (ps_ret (pe_lc (own := [("hand", 3)]) (g := (gName 3)) (tt := (tAnd (tTest (tOp rEq (tOp (rIx K) (tOp (rIx K) (tVar 2) (tVar 3)) (tC (.int 1))) (tC (.str "sleeps")))) (tB (tDIn (tVar 1) (tCB (rDictPT K) (tCons (tOp (rIx K) (tOp (rIx K) (tVar 2) (tVar 3)) (tC (.int 5))) tNil)))))) (te := (tVar 3)) rfl sc_woken_by.nd (pi_range1 rfl T.z_range (pa_cons (pe_callB call_len_seq (by rfl) T.z_len PySem.boot_len (pa_cons (pv 2) pa_nil)) pa_nil)) (blkOk_by (N := N_woken_by) (sc := defScope s_woken_by) (by decide +kernel)) (fun _ _ _ _ _ => (pg_name (i := 3) sc_woken_by.nd rfl (Or.inl rfl) (.inr rfl))) (fun _ _ _ _ _ => pts_one (PW.pt (pw_and (pt_cmpR op_eq (pe_ix ix_seq (pe_ix ix_seq (pv 2) (pv 3) (fun _ _ => rfl)) pe_int (fun _ _ => rfl)) pe_str (nomark _)) (pw_and1 (pt_cmp (pc_din hu (pv 1) (pe_callTy (call_dictPT rfl) (by rfl) T.z_dict (by decide +kernel) (pa_cons (pe_ix ix_seq (pe_ix ix_seq (pv 2) (pv 3) (fun _ _ => rfl)) pe_int (fun _ _ => rfl)) pa_nil))) rfl))))) (fun _ _ _ _ _ => (pv 3)))))), fun ds Q h => ?_⟩
  obtain ⟨cw, m, st, c, rfl, sz, hl, rfl⟩ := h
  have szh := sz.h
  walk_at "nf"
  refine q_seq (q_set (d := .tup (rowsL cw.length st.rows)) (ev_ix (ev_var rfl) (by decide) rfl) ?_)
  walk_at "nf"
  refine q_retD (d := .lst ((List.range cw.length).filterMap fun i => if K70.wakes c (st.rows i) = true then some (D.int (i : Int)) else none)) ?_ ?_
  · refine ev_lcR _ (eva_cons ((ev_cb (eva_cons (ev_var rfl) eva_nil) rc_lenT).eq (by rw [rowsL_len])) eva_nil) (by omega) fun i hi => ?_
    have eR : ∀ {Γ : Gm}, Γ[2]? = some (some (.tup (rowsL cw.length st.rows))) → Γ[3]? = some (some (.int (i : Int))) → Ev K (tOp (rIx K) (tVar 2) (tVar 3)) Γ (rowD (st.rows i)) := fun a b => ev_ixv (ev_var a) b (rowsL_get hi)
    refine gw_name (by decide) ⟨K70.wakes c (st.rows i), ?_, fun e => ⟨.int (i : Int), by rw [if_pos e], rfl, ev_var rfl⟩, fun e => by rw [if_neg (by rw [e]; exact Bool.false_ne_true)]⟩
    refine (eb_and (b := match st.rows i with | .sleeps _ _ _ _ => true | _ => false) (c := decide (c ∈ (st.rows i).rs.map (·.1))) ((ev_isEqS (ev_ix (eR rfl rfl) (by decide) rfl) ev_str).eq ph_sleeps) fun _ => ?_).eq ?_
    · refine (eb_B (ev_din (kvs := kvI (rsK (st.rows i).rs)) (k := .inl (c : Int)) (ev_var rfl) (ev_cb (ds := [.ptup ((rsK (st.rows i).rs).map pairK)]) (eva_cons ((ev_ix (d := .ptup (rsD (st.rows i).rs)) (eR rfl rfl) (by decide) rfl).eq (by rw [rsD_pair])) eva_nil) (rc_dictPT (rsK_nodup (hl i hi)))) rfl)).eq ?_
      rw [valV_look, Option.isSome_map, look_some]
    · cases st.rows i <;> rfl
  · show D.lst _ = D.lst _
    congr 1
    unfold wakeL
    exact fm_filter _
theorem wake_sl {c : Nat} {r : K70.Row} (h : K70.wakes c r = true) : ∃ k t v rs, r = .sleeps k t v rs := by
  cases r <;> first | exact ⟨_, _, _, _, rfl⟩ | cases h
/-- after the first hands of a list were given up -/
def wokeS (p : K70.P) (s : K70.S) (c : Nat) (cl : K70.Cell) (l : List Nat) : K70.S :=
  { s with cells := K70.upd s.cells c cl, rows := fun i => if i ∈ l then K70.rowNew (p.n i) (s.rows i).k (s.rows i).tk else s.rows i }
def isBacks : K70.Row → Prop | .backs _ _ _ _ _ _ _ => True | _ => False
theorem ok_backs (T : Txt K w mg) : FnOk P w K mg base CX0 20 T.d_backs.f T.d_backs.fd ["state", "hand"] (spD K (R_deed isBacks)) := by
  have G_written_by := ok_written_by (P := P) (base := base) T
  have G_woken_by := ok_woken_by (P := P) (base := base) T
  have G_given_up := ok_given_up (P := P) (base := base) T
  have G_with_row := ok_with_row (P := P) (base := base) T
  have G_with_cell := ok_with_cell (P := P) (base := base) T
  have G_done_with := ok_done_with (P := P) (base := base) T
  refine fn_data T.d_backs.F sc_backs (fun ds Q h => by obtain ⟨_, _, _, _, rfl, _⟩ := h; rfl) fun cdv A outer s H E hr => ?_
  refine ⟨_, (pss_cons (ps_asg (pe_ix ix_seq (pe_ix ix_seq (pv 0) pe_int (fun _ _ => rfl)) (pv 1) (fun _ _ => rfl)) (pg_tup rfl (pgs_cons (pg_name (i := 2) sc_backs.nd rfl (Or.inl rfl)) (pgs_cons (pg_name (i := 3) sc_backs.nd rfl (Or.inl rfl)) (pgs_cons (pg_name (i := 4) sc_backs.nd rfl (Or.inl rfl)) (pgs_cons (pg_name (i := 5) sc_backs.nd rfl (Or.inl rfl)) (pgs_cons (pg_name (i := 6) sc_backs.nd rfl (Or.inl rfl)) (pgs_cons (pg_name (i := 7) sc_backs.nd rfl (Or.inl rfl)) (pgs_cons (pg_name (i := 8) sc_backs.nd rfl (Or.inl rfl)) pgs_nil)))))))))
    (pss_cons (ps_asg (pe_call G_written_by (hr.mono (by first | decide | omega)) rfl T.d_written_by.m T.d_written_by.kp (b_written_by T.d_written_by.F) .nil pass0 (pa_cons (pv 0) (pa_cons (pv 1) pa_nil))) (pg_tup rfl (pgs_cons (pg_name (i := 9) sc_backs.nd rfl (Or.inl rfl)) (pgs_cons (pg_name (i := 10) sc_backs.nd rfl (Or.inl rfl)) pgs_nil))))
    (pss_cons (ps_asg (pe_ix ix_seq (pv 10) (pv 8) (fun _ _ => rfl)) (pg_tup rfl (pgs_cons (pg_name (i := 11) sc_backs.nd rfl (Or.inl rfl)) (pgs_cons (pg_name (i := 12) sc_backs.nd rfl (Or.inl rfl)) pgs_nil))))
    (pss_cons (ps_set (i := 13) sc_backs.nd rfl (Or.inl rfl) (pe_call G_woken_by (hr.mono (by first | decide | omega)) rfl T.d_woken_by.m T.d_woken_by.kp (b_woken_by T.d_woken_by.F) .nil pass0 (pa_cons (pv 0) (pa_cons (pv 11) pa_nil))))
    (pss_cons (ps_set (i := 14) sc_backs.nd rfl (Or.inl rfl) (pe_call G_with_cell (hr.mono (by first | decide | omega)) rfl T.d_with_cell.m T.d_with_cell.kp (b_with_cell T.d_with_cell.F) .nil pass0 (pa_cons (pv 0) (pa_cons (pv 11) (pa_cons (pe_tup (pa_cons (pv 12) (pa_cons (pv 6) (pa_cons pe_non pa_nil)))) pa_nil)))))
    (pss_cons (ps_for PassesOwn.never rfl (pi_list (pv 13)) (pg_name (i := 15) sc_backs.nd rfl (Or.inl rfl)) (pss_one (ps_set (i := 14) sc_backs.nd rfl (Or.inl rfl) (pe_call G_given_up (hr.mono (by first | decide | omega)) rfl T.d_given_up.m T.d_given_up.kp (b_given_up T.d_given_up.F) .nil pass0 (pa_cons (pv 14) (pa_cons (pv 15) pa_nil))))))
    (pss_cons (ps_set (i := 16) sc_backs.nd rfl (Or.inl rfl) pe_non)
    (pss_cons (ps_if (pt_cmpR op_eq (pe_op op_add (pv 8) pe_int) (pe_callB call_len_seq (by rfl) T.z_len PySem.boot_len (pa_cons (pv 10) pa_nil)) (nomark _)) (pss_one (ps_par (i := 14) (j := 16) rfl sc_backs.nd rfl rfl (by decide) rfl rfl (pa_cons (pe_call G_done_with (hr.mono (by first | decide | omega)) rfl T.d_done_with.m T.d_done_with.kp (b_done_with T.d_done_with.F) .nil pass0 (pa_cons (pv 14) (pa_cons (pv 1) pa_nil))) (pa_cons (pe_tup (pa_cons pe_str (pa_cons (pv 2) (pa_cons (pv 6) (pa_cons (pv 9) pa_nil))))) pa_nil)) (by rfl))) (pss_one (ps_set (i := 14) sc_backs.nd rfl (Or.inl rfl) (pe_call G_with_row (hr.mono (by first | decide | omega)) rfl T.d_with_row.m T.d_with_row.kp (b_with_row T.d_with_row.F) .nil pass0 (pa_cons (pv 14) (pa_cons (pv 1) (pa_cons (pe_tup (pa_cons (pv 2) (pa_cons (pv 3) (pa_cons (pv 4) (pa_cons (pv 5) (pa_cons (pv 6) (pa_cons (pv 7) (pa_cons (pe_op op_add (pv 8) pe_int) pa_nil)))))))) pa_nil)))))))
    (pss_one (ps_ret (pe_tup (pa_cons (pv 14) (pa_cons (pe_tup (pa_cons (pv 1) (pa_cons pe_str (pa_cons (pv 11) (pa_cons (pv 12) (pa_cons (pe_callTy call_tuple_of (by rfl) T.z_tuple (by decide +kernel) (pa_cons (pv 13) pa_nil)) (pa_cons (pv 16) pa_nil))))))) pa_nil))))))))))))), fun ds Q h => ?_⟩
  obtain ⟨cw, m, st, h, rfl, hh, cx, hc, rfl⟩ := h
  cases er : st.rows h with
  | backs k t r wv rs ws d =>
    have ro := cx.inv.row h hh
    rw [er] at ro
    obtain ⟨r1, r2, r3⟩ := ro
    have hl : K70.LOk m rs := by have := cx.inv.rsOk h hh; rw [er] at this; exact this
    have hw := (crew_ok cx.ok).en h k rs ws r2
    have eo : EndOk cw m st h rs ws := ⟨hh, cx.ok, by rw [er]; exact r1, hl, by rw [er]; rfl, by rw [er]; exact r2⟩
    obtain ⟨q, hq⟩ : ∃ q, ws[d]? = some q := ⟨ws[d], List.getElem?_eq_getElem r3⟩
    have hqm := hw.lt q (List.mem_of_getElem? hq)
    have elen : (rsD ws).length = ws.length := by unfold rsD; rw [List.length_map]
    walk_at "nf"
    refine q_seq (q_asg (d := .tup [.int (k : Int), .str "backs", .int t, .int r, .int wv, .ptup (rsD rs), .int (d : Int)]) ((ev_row rfl rfl hh).eq (by rw [er]; rfl)) (gd_un7 ?_))
    walk_at "nf"
    refine q_seq (q_asg (d := .tup [.tup ((toldOf (prog cw h (st.rows h).k) rs).map .int), .ptup (rsD ws)]) (ev_call (eva_cons (ev_var rfl) (eva_cons (ev_var rfl) eva_nil)) ⟨cw, m, st, h, rs, ws, rfl, eo, rfl⟩ fun _ e => e) (gd_un2 ?_))
    walk_at "nf"
    refine q_seq (q_asg (d := .tup [.int (q.1 : Int), .int q.2]) (ev_ixP (ev_var rfl) rfl (rsD_get hq)) (gd_un2 ?_))
    walk_at "nf"
    refine q_seq (q_set (d := .lst ((wakeL cw st q.1).map fun i : Nat => D.int (i : Int))) (ev_call (eva_cons (ev_var rfl) (eva_cons (ev_var rfl) eva_nil)) ⟨cw, m, st, q.1, rfl, cx.sz, fun i hi => cx.inv.rsOk i hi, rfl⟩ fun _ e => e) ?_)
    walk_at "nf"
    refine q_seq (q_set (d := stD cw m { st with cells := K70.upd st.cells q.1 ⟨q.2, wv, none⟩ }) ?_ ?_)
    · exact ev_call (ds := [stD cw m st, .int (q.1 : Int), cellD ⟨q.2, wv, none⟩]) (eva_cons (ev_var rfl) (eva_cons (ev_var rfl) (eva_cons (ev_tup (eva_cons (ev_var rfl) (eva_cons (ev_var rfl) (eva_cons ev_non eva_nil))) (sz5 (Nat.le_of_ble_eq_true rfl))) eva_nil))) ⟨cw, m, st, q.1, _, rfl, hqm, cx.sz, rfl⟩ fun _ e => e
    walk_at "nf"
    refine q_seq (q_forL (fun i Γ => ∃ one : Option D, Γ = [some (stD cw m st), some (.int (h : Int)), some (.int (k : Int)), some (.str "backs"), some (.int t), some (.int r), some (.int wv), some (.ptup (rsD rs)), some (.int (d : Int)), some (.tup ((toldOf (prog cw h (st.rows h).k) rs).map .int)), some (.ptup (rsD ws)), some (.int (q.1 : Int)), some (.int q.2), some (.lst ((wakeL cw st q.1).map fun i : Nat => D.int (i : Int))), some (stD cw m (wokeS (crewP cw m) st q.1 ⟨q.2, wv, none⟩ ((wakeL cw st q.1).take i))), one, none]) (ev_var rfl) ⟨none, ?_⟩ ?_ ?_)
    · have : stD cw m (wokeS (crewP cw m) st q.1 ⟨q.2, wv, none⟩ ((wakeL cw st q.1).take 0)) = stD cw m { st with cells := K70.upd st.cells q.1 ⟨q.2, wv, none⟩ } := stD_congr rfl rfl (fun _ _ => rfl) fun _ _ => rfl
      rw [this]
    · rintro i dd Γ hi ⟨one, rfl⟩
      rw [List.getElem?_map] at hi
      cases ei : (wakeL cw st q.1)[i]? with
      | none => rw [ei] at hi; cases hi
      | some o =>
        rw [ei] at hi
        have hi : D.int (o : Int) = dd := Option.some.inj hi
        subst hi
        have om : o ∈ wakeL cw st q.1 := List.mem_of_getElem? ei
        have om2 := List.mem_filter.mp om
        have oh : o < cw.length := List.mem_range.mp om2.1
        obtain ⟨k2, t2, v2, rs2, e2⟩ := wake_sl om2.2
        refine gd_name (q_set (d := stD cw m (wokeS (crewP cw m) st q.1 ⟨q.2, wv, none⟩ ((wakeL cw st q.1).take (i + 1)))) ((ev_call (eva_cons (ev_var rfl) (eva_cons (ev_var rfl) eva_nil)) ⟨cw, m, _, o, rfl, oh, cx.sz, rfl⟩ fun _ e => e).eq ?_) ⟨_, rfl⟩)
        have tk : (wakeL cw st q.1).take (i + 1) = (wakeL cw st q.1).take i ++ [o] := by rw [List.take_add_one, ei]; rfl
        refine stD_congr rfl rfl (fun c hc => ?_) fun j hj => ?_
        · show K70.free o (K70.upd st.cells q.1 _ c) = K70.upd st.cells q.1 _ c
          unfold K70.free
          rw [if_neg]
          intro z
          by_cases e : c = q.1
          · subst e; rw [K70.upd_same] at z; cases z
          · rw [K70.upd_ne e] at z
            have := ((cx.inv.hold c hc o).mp z).2
            rw [e2] at this; simp [K70.Row.held] at this
        · show K70.upd _ o _ j = _
          by_cases e : j = o
          · subst e
            rw [K70.upd_same]
            show K70.rowNew _ (if j ∈ (wakeL cw st q.1).take i then K70.rowNew ((crewP cw m).n j) (st.rows j).k (st.rows j).tk else st.rows j).k (if j ∈ (wakeL cw st q.1).take i then K70.rowNew ((crewP cw m).n j) (st.rows j).k (st.rows j).tk else st.rows j).tk = (if j ∈ (wakeL cw st q.1).take (i + 1) then K70.rowNew ((crewP cw m).n j) (st.rows j).k (st.rows j).tk else st.rows j)
            rw [tk, if_pos (List.mem_append.mpr (Or.inr (List.mem_singleton.mpr rfl)))]
            split
            · exact rowNew_idem
            · rfl
          · rw [K70.upd_ne e]
            show (if j ∈ (wakeL cw st q.1).take i then _ else _) = (if j ∈ (wakeL cw st q.1).take (i + 1) then _ else _)
            have : j ∈ (wakeL cw st q.1).take (i + 1) ↔ j ∈ (wakeL cw st q.1).take i := by rw [tk, List.mem_append, List.mem_singleton]; exact ⟨fun z => z.resolve_right e, Or.inl⟩
            simp only [this]
    · rintro Γ ⟨one, rfl⟩
      rw [List.length_map, List.take_length]
      refine q_seq (q_set (d := .non) ev_non ?_)
      walk_at "nf"
      have nw : h ∉ wakeL cw st q.1 := fun z => by
        obtain ⟨_, _, _, _, e⟩ := wake_sl (List.mem_filter.mp z).2
        rw [er] at e; cases e
      have step : ∀ row : K70.Row, row = (if d + 1 = ws.length then K70.rowNew ((crewP cw m).n h) (k + 1) none else .backs k t r wv rs ws (d + 1)) → ∃ S : K70.S, K70.step (crewP cw m) st h = (S, true) ∧ stD cw m { wokeS (crewP cw m) st q.1 ⟨q.2, wv, none⟩ (wakeL cw st q.1) with rows := K70.upd (wokeS (crewP cw m) st q.1 ⟨q.2, wv, none⟩ (wakeL cw st q.1)).rows h row } = stD cw m S := fun row erow => by
        refine ⟨{ st with cells := K70.upd st.cells q.1 ⟨q.2, wv, none⟩, rows := fun i => if i = h then (if d + 1 = ws.length then K70.rowNew ((crewP cw m).n h) (k + 1) none else .backs k t r wv rs ws (d + 1)) else if K70.wakes q.1 (st.rows i) then K70.rowNew ((crewP cw m).n i) (st.rows i).k (st.rows i).tk else st.rows i }, by unfold K70.step; simp only [er, hq], stD_congr rfl rfl (fun _ _ => rfl) fun j hj => ?_⟩
        show K70.upd _ h row j = (if j = h then (if d + 1 = ws.length then K70.rowNew ((crewP cw m).n h) (k + 1) none else .backs k t r wv rs ws (d + 1)) else if K70.wakes q.1 (st.rows j) then K70.rowNew ((crewP cw m).n j) (st.rows j).k (st.rows j).tk else st.rows j)
        by_cases e : j = h
        · subst e; rw [K70.upd_same, if_pos rfl, erow]
        · rw [K70.upd_ne e, if_neg e]
          show (if j ∈ wakeL cw st q.1 then _ else _) = _
          have : j ∈ wakeL cw st q.1 ↔ K70.wakes q.1 (st.rows j) = true := by
            unfold wakeL; rw [List.mem_filter, List.mem_range]; exact ⟨fun z => z.2, fun z => ⟨hj, z⟩⟩
          simp only [this]
      obtain ⟨S, es1, es2⟩ := step _ rfl
      refine q_seq (q_imp (fun Γ => ∃ e : D, gdD e 7 = true ∧ Γ[0]? = some (some (stD cw m st)) ∧ Γ[1]? = some (some (.int (h : Int))) ∧ Γ[11]? = some (some (.int (q.1 : Int))) ∧ Γ[12]? = some (some (.int q.2)) ∧ Γ[13]? = some (some (.lst ((wakeL cw st q.1).map fun i : Nat => D.int (i : Int)))) ∧ Γ[14]? = some (some (stD cw m S)) ∧ Γ[16]? = some (some e)) ?_ ?_)
      · refine q_if (b := decide (d + 1 = ws.length)) ?_ (fun b => ?_) fun b => ?_
        · refine (eb_test (ev_op (d1 := .int ((d : Int) + 1)) (d2 := .int ((rsD ws).length : Int)) (ev_op (ev_var rfl) ev_int rd_int) (ev_cb (eva_cons (ev_pt (ev_var rfl)) eva_nil) rc_lenT) (rd_eq rfl rfl rfl))).eq ?_
          rw [elen]
          refine decide_eq_decide.mpr ⟨fun e => ?_, fun e => ?_⟩
          · have := V.int.inj e; omega
          · congr 1; omega
        · have b := of_decide_eq_true b
          refine q_par (d1 := stD cw m S) (d2 := .tup [.str "ended", .int (k : Int), .int wv, .tup ((toldOf (prog cw h (st.rows h).k) rs).map .int)]) (eva_cons ?_ (eva_cons (by walk_at "ev") eva_nil)) ⟨_, ?_, rfl, rfl, rfl, rfl, rfl, rfl, rfl⟩
          · refine (ev_call (eva_cons (ev_var rfl) (eva_cons (ev_var rfl) eva_nil)) ⟨cw, m, _, h, rfl, hh, cx.sz, rfl⟩ fun _ e => e).eq ?_
            rw [← es2, if_pos b]
            refine stD_congr rfl rfl (fun _ _ => rfl) fun j hj => ?_
            show K70.upd _ h (K70.rowNew _ ((wokeS (crewP cw m) st q.1 ⟨q.2, wv, none⟩ (wakeL cw st q.1)).rows h).k.succ none) j = _
            unfold wokeS
            simp only [if_neg nw, er]
            rfl
          · walk_at "gd"
        · have b := of_decide_eq_false b
          refine q_set (d := stD cw m S) ?_ ⟨.non, rfl, rfl, rfl, rfl, rfl, rfl, rfl, rfl⟩
          refine (ev_call (ds := [_, .int (h : Int), rowD (.backs k t r wv rs ws (d + 1))]) (eva_cons (ev_var rfl) (eva_cons (ev_var rfl) (eva_cons ?_ eva_nil))) ⟨cw, m, _, h, _, rfl, hh, cx.sz, rfl⟩ fun _ e => e).eq ?_
          · exact ev_tup (eva_cons (ev_var rfl) (eva_cons (ev_var rfl) (eva_cons (ev_var rfl) (eva_cons (ev_var rfl) (eva_cons (ev_var rfl) (eva_cons (ev_var rfl) (eva_cons (ev_op (ev_var rfl) ev_int rd_int) eva_nil))))))) (sz5 (Nat.le_of_ble_eq_true rfl))
          · rw [← es2, if_neg b]
      · rintro Γ ⟨e, ge, g0, g1, g11, g12, g13, g14, g16⟩
        refine q_retD (d := .tup [stD cw m S, .tup [.int (h : Int), .str "back", .int (q.1 : Int), .int q.2, .tup ((wakeL cw st q.1).map fun i : Nat => D.int (i : Int)), e]]) (ev_told (ev_var g14) (eva_cons (ev_var g1) (eva_cons ev_str (eva_cons (ev_var g11) (eva_cons (ev_var g12) (eva_cons (ev_cb (eva_cons (ev_var g13) eva_nil) rc_tuple) (eva_cons (ev_var g16) eva_nil)))))) (Nat.le_of_ble_eq_true rfl)) (told_yes es1 (by decide +kernel) (by decide +kernel) ?_)
        have g7 : gdD e 8 = true := gd_up ge
        have : gdL ((wakeL cw st q.1).map fun i : Nat => D.int (i : Int)) 7 = true := gdL_of fun _ _ => rfl
        simp only [gdL, gdD, this, g7]; rfl
  | _ => rw [er] at hc; exact hc.elim
inductive S_step (T : Txt K w mg) : Addr → Sp → Prop where
  | new : S_step T T.d_begins.f (spD K (R_deed isNew))
  | walks : S_step T T.d_walks.f (spD K (R_deed isWalks))
  | locks : S_step T T.d_locks.f (spD K (R_deed isLocks))
  | checks : S_step T T.d_checks.f (spD K (R_deed isChecks))
  | backs : S_step T T.d_backs.f (spD K (R_deed isBacks))
  | rests : S_step T T.d_rests.f (spD K (R_deed isRest))
def R_step (ds : List D) (Q : D → Prop) : Prop := ∃ (cw : Crew) (m : Nat) (s : K70.S) (h : Nat), ds = [stD cw m s, .int (h : Int)] ∧ h < cw.length ∧ Cx' cw m s ∧ Q = ToldR cw m h (K70.step (crewP cw m) s h)
theorem ok_step (T : Txt K w mg) : FnOk P w K mg base CX0 22 T.d_step.f T.d_step.fd ["state", "hand"] (spD K R_step) := by
  have G_need_hand := ok_need_hand (P := P) (base := base) T
  have A_deed : ∀ f sp, S_step T f sp → Held P w K mg base 21 f sp := fun f sp h => by
    cases h with
    | new => exact ⟨_, _, (ok_begins T).mono (by omega), T.d_begins.kp, b_begins T.d_begins.F⟩
    | walks => exact ⟨_, _, (ok_walks T).mono (by omega), T.d_walks.kp, b_walks T.d_walks.F⟩
    | locks => exact ⟨_, _, (ok_locks T).mono (by omega), T.d_locks.kp, b_locks T.d_locks.F⟩
    | checks => exact ⟨_, _, (ok_checks T).mono (by omega), T.d_checks.kp, b_checks T.d_checks.F⟩
    | backs => exact ⟨_, _, (ok_backs T).mono (by omega), T.d_backs.kp, b_backs T.d_backs.F⟩
    | rests => exact ⟨_, _, (ok_rests T).mono (by omega), T.d_rests.kp, b_rests T.d_rests.F⟩
  refine fn_data T.d_step.F sc_step (fun ds Q h => by obtain ⟨_, _, _, _, rfl, _⟩ := h; rfl) fun cdv A outer s H E hr => ?_
  refine ⟨_, (pss_cons (ps_expr (pe_call G_need_hand (hr.mono (by first | decide | omega)) rfl T.d_need_hand.m T.d_need_hand.kp (b_need_hand T.d_need_hand.F) .nil pass0 (pa_cons (pv 0) (pa_cons (pv 1) pa_nil))))
    (pss_cons (ps_set (i := 2) sc_step.nd rfl (Or.inl rfl) (pe_ix ix_kdict (pe_globE rfl T.g_DEEDS) (pe_ix ix_seq (pe_ix ix_seq (pe_ix ix_seq (pv 0) pe_int (fun _ _ => rfl)) (pv 1) (fun _ _ => rfl)) pe_int (fun _ _ => rfl)) (fun _ _ => rfl)))
    (pss_one (ps_ret (pe_callR (i := 2) A_deed (hr.mono (by first | decide | omega)) rfl (.inl rfl) (pa_cons (pv 0) (pa_cons (pv 1) pa_nil))))))), fun ds Q h => ?_⟩
  obtain ⟨cw, m, st, h, rfl, hh, cx, rfl⟩ := h
  walk_at "nf"
  refine q_seq (q_expr (evp_call (eva_cons (ev_var rfl) (eva_cons (ev_var rfl) eva_nil)) ⟨cw, m, st, h, rfl, hh, rfl⟩) ?_)
  have key : ∃ (f : Addr) (c : K70.Row → Prop), KDct K w T.a_DEEDS (phS (st.rows h)) (.ref f) ∧ S_step T f (spD K (R_deed c)) ∧ c (st.rows h) := by
    cases er : st.rows h with
    | new => exact ⟨_, _, T.kD_new, .new, trivial⟩
    | walks => exact ⟨_, _, T.kD_walks, .walks, trivial⟩
    | locks => exact ⟨_, _, T.kD_locks, .locks, trivial⟩
    | checks => exact ⟨_, _, T.kD_checks, .checks, trivial⟩
    | backs => exact ⟨_, _, T.kD_backs, .backs, trivial⟩
    | sleeps => exact ⟨_, _, T.kD_sleeps, .rests, trivial⟩
    | through => exact ⟨_, _, T.kD_through, .rests, trivial⟩
  obtain ⟨f, c, kd, sp, hcr⟩ := key
  refine q_seq (q_set (d := .ref f) (ev_op ev_ref (ev_ix (d := .str (phS (st.rows h))) (ev_row rfl rfl hh) (by decide) rfl) (rd_kd kd fun _ => rfl)) ?_)
  walk_at "nf"
  exact q_ret (evp_callR rfl sp (eva_cons (ev_var rfl) (eva_cons (ev_var rfl) eva_nil)) ⟨cw, m, st, h, rfl, hh, cx, hcr, rfl⟩) fun d e => e
end
end Wk
set_option Elab.async false
set_option linter.all false
set_option maxRecDepth 100000
set_option maxHeartbeats 2000000
/-! the tap: a list that each pick writes; all else stays -/
namespace Wk
open PySem PySem.Spec PyProof.Rows L2
def SameS (S : List Addr) (H H' : Hp) : Prop := ∀ b u, b ∉ S → H b = some u → H' b = some u
theorem SameS.refl {S : List Addr} {H : Hp} : SameS S H H := fun _ _ _ h => h
theorem SameS.trans {S : List Addr} {H H1 H2 : Hp} (a : SameS S H H1) (b : SameS S H1 H2) : SameS S H H2 := fun c u n h => b c u n (a c u n h)
theorem SameS.of {S : List Addr} {H H' : Hp} (a : Same H H') : SameS S H H' := fun c u _ h => a c u h
theorem SameS.mono {S S' : List Addr} {H H' : Hp} (a : SameS S H H') (h : ∀ b, b ∉ S' → b ∉ S) : SameS S' H H' := fun c u n q => a c u (h c n) q
theorem SameS.upd {S : List Addr} {H : Hp} {p : Addr} {o : HO} (h : p ∈ S) : SameS S H (L2.upd H p o) := fun b u n q => by
  rw [L2.upd_ne (by rintro rfl; exact n h)]; exact q
def Tap (p q : Addr) (b : Nat) (H : Hp) : Prop := ∃ (a r t : Int) (xs : List Int), H p = some (.lst [.ref q, .int a, .int r, .int t]) ∧ H q = some (.lst (xs.map V.int)) ∧ 0 ≤ a ∧ 0 ≤ t ∧ t + b ≤ 100000000 ∧ xs.length ≤ 100000
theorem Tap.ne {p q : Addr} {b : Nat} {H : Hp} (h : Tap p q b H) : p ≠ q := by
  obtain ⟨a, r, t, xs, h1, h2, _⟩ := h
  rintro rfl
  rw [h1] at h2
  cases xs with
  | nil => cases h2
  | cons x xs => have := congrArg (fun o : Option HO => match o with | some (.lst (y :: _)) => some y | _ => none) h2; simp at this
theorem Tap.le {p q : Addr} {b b' : Nat} {H : Hp} (h : Tap p q b H) (l : b' ≤ b) : Tap p q b' H := by
  obtain ⟨a, r, t, xs, h1, h2, h3, h4, h5, h6⟩ := h
  exact ⟨a, r, t, xs, h1, h2, h3, h4, by omega, h6⟩
theorem Tap.same {p q : Addr} {b : Nat} {H H' : Hp} (h : Tap p q b H) (e : Same H H') : Tap p q b H' := by
  obtain ⟨a, r, t, xs, h1, h2, h3⟩ := h
  exact ⟨a, r, t, xs, e _ _ h1, e _ _ h2, h3⟩
theorem Tap.keep {p q : Addr} {b : Nat} {H H' : Hp} (h : Tap p q b H) (e : SameS [p] H H') : KeepT H H' := fun c u hc n => by
  refine e c u (fun z => ?_) hc
  obtain ⟨a, r, t, xs, h1, _⟩ := h
  rw [List.mem_singleton] at z
  subst z
  rw [h1] at hc
  exact n _ (Option.some.inj hc).symm
def nlG (Γ : Gm) : Prop := ∀ (i : Nat) (d : D), Γ[i]? = some (some d) → nl d = true
theorem nlG.set {Γ : Gm} {i : Nat} {d : D} (h : nlG Γ) (n : nl d = true) : nlG (Γ.set i (some d)) := fun j d' q => by
  by_cases z : i = j
  · subst z
    by_cases hl : i < Γ.length
    · rw [List.getElem?_set_self hl] at q; cases q; exact n
    · rw [List.getElem?_eq_none (by rw [List.length_set]; omega)] at q; cases q
  · rw [List.getElem?_set_ne z] at q; exact h j d' q
theorem SA.keep {K : PySem.W.Frag} {H H' : Hp} {σ : L2.St} {Γ : Gm} (h : SA K H σ Γ) (n : nlG Γ) (k : KeepT H H') : SA K H' σ Γ :=
  ⟨h.len, fun i d q => let ⟨v, e, a⟩ := h.at_ i d q; ⟨v, e, At.keep k (n i d q) a⟩⟩
def EvT (K : PySem.W.Frag) (p q : Addr) (te : TE) (Γ : Gm) (c : Nat) (P : D → Prop) : Prop := ∀ b σ H, c ≤ b → SA K H σ Γ → Tap p q b H → ∀ Q : VK, (∀ v H' d, P d → nl d = true → SameS [p] H H' → Tap p q (b - c) H' → At K H' d v → Q v H') → te σ H Q
def EvTA (K : PySem.W.Frag) (p q : Addr) (ta : TA) (Γ : Gm) (c : Nat) (P : List D → Prop) : Prop := ∀ b σ H, c ≤ b → SA K H σ Γ → Tap p q b H → ∀ Q : List V → Hp → Prop, (∀ vs H' ds, P ds → nlL ds = true → SameS [p] H H' → Tap p q (b - c) H' → AtL K H' ds vs → Q vs H') → ta σ H Q
def spT (K : PySem.W.Frag) (R : List D → Nat → (D → Prop) → Prop) : Sp := fun vs H Q _ => ∃ (p q : Addr) (b : Nat) (ds : List D) (c : Nat) (P : D → Prop), R ds c P ∧ c ≤ b ∧ nlL ds = true ∧ AtL K H (.ref p :: ds) vs ∧ Tap p q b H ∧
  ∀ v H' d, P d → nl d = true → SameS [p] H H' → Tap p q (b - c) H' → At K H' d v → Q v H'
section
variable {K : PySem.W.Frag} {p q : Addr} {Γ : Gm} {te tf : TE} {ta : TA} {c c' : Nat} {P P' : D → Prop} {d d1 d2 : D} {ds : List D} {A : List D → Prop}
theorem evt_of (h : Ev K te Γ d) (n : nl d = true) : EvT K p q te Γ 0 (fun x => x = d) := fun b σ H _ sa tp Q k => h σ H sa Q fun v H' e a => k v H' d rfl n (SameS.of e) (tp.same e) a
theorem evt_le (h : EvT K p q te Γ c P) (l : c ≤ c') (hp : ∀ x, P x → P' x) : EvT K p q te Γ c' P' := fun b σ H lb sa tp Q k => h b σ H (by omega) sa tp Q fun v H' d pd n e t a => k v H' d (hp d pd) n e (t.le (by omega)) a
theorem evta_nil : EvTA K p q tNil Γ 0 (fun ds => ds = []) := fun b σ H _ sa tp Q k => k [] H [] rfl rfl SameS.refl tp rfl
theorem evta_cons {t : TA} (g : nlG Γ) (h : EvT K p q te Γ c P) (h2 : EvTA K p q t Γ c' A) : EvTA K p q (tCons te t) Γ (c + c') (fun ds => ∃ d r, ds = d :: r ∧ P d ∧ A r) := fun b σ H lb sa tp Q k =>
  h b σ H (by omega) sa tp _ fun v H1 d pd n e1 t1 a1 => h2 (b - c) σ H1 (by omega) (sa.keep g (tp.keep e1)) t1 _ fun vs H2 r ar nr e2 t2 a2 => by
    refine k (v :: vs) H2 (d :: r) ⟨d, r, rfl, pd, ar⟩ (by simp only [nlL, n, nr]; rfl) (e1.trans e2) (t2.le (by omega)) ⟨v, vs, rfl, At.keep (t1.keep e2) n a1, a2⟩
theorem evt_tup {t : TA} (h : EvTA K p q t Γ c A) (hl : ∀ ds, A ds → ds.length ≤ 100000) : EvT K p q (tTup t) Γ c (fun d => ∃ ds, A ds ∧ d = .tup ds) := fun b σ H lb sa tp Q k =>
  h b σ H lb sa tp _ fun vs H1 ds a n e1 t1 a1 => ⟨by rw [AtL.len a1]; exact sz5 (hl ds a), fun r hr => k (.ref r) _ (.tup ds) ⟨ds, a, rfl⟩ n (e1.trans (SameS.of (Same.new hr))) (t1.same (Same.new hr)) (At.tup_new hr a1)⟩
theorem evt_call {R : List D → Nat → (D → Prop) → Prop} {t : TA} {E : XK} (h : EvTA K p q t Γ c (fun es => ∃ ds, es = .ref p :: ds ∧ R ds c' P)) : EvT K p q (tCall (spT K R) [] E t) Γ (c + c') P := fun b σ H lb sa tp Q k =>
  h b σ H (by omega) sa tp _ fun vs H1 es ⟨ds, e, r⟩ n e1 t1 a1 => by
    subst e
    refine ⟨p, q, b - c, ds, c', P, r, by omega, by simpa [nlL, nl] using n, by rw [List.append_nil]; exact a1, t1, fun v H' d pd nd e2 t2 a2 => k v H' d pd nd (e1.trans e2) (t2.le (by omega)) a2⟩
/-- arguments that do not pick -/
theorem evta_of (h : EvA K ta Γ ds) (n : nlL ds = true) : EvTA K p q ta Γ 0 (fun x => x = ds) := fun b σ H _ sa tp Q k => h σ H sa Q fun vs H' e a => k vs H' ds rfl n (SameS.of e) (tp.same e) a
theorem evt_call0 {R : List D → Nat → (D → Prop) → Prop} {t : TA} {E : XK} (h : EvA K t Γ (.ref p :: ds)) (n : nlL ds = true) (r : R ds c P) : EvT K p q (tCall (spT K R) [] E t) Γ c P := by
  have := evt_call (K := K) (p := p) (q := q) (c := 0) (c' := c) (P := P) (R := R) (E := E) (Γ := Γ) (t := t) fun b σ H lb sa tp Q k => evta_of (p := p) (q := q) h (by simpa [nlL, nl] using n) b σ H lb sa tp Q fun vs H' es e nn s t a => k vs H' es ⟨ds, e, r⟩ nn s t a
  rwa [Nat.zero_add] at this
theorem evt_op {r : R2} (g : nlG Γ) (h1 : EvT K p q te Γ c P) (h2 : EvT K p q tf Γ c' P') {P2 : D → Prop} (hr : ∀ d1 d2, P d1 → P' d2 → ∃ d, P2 d ∧ nl d = true ∧ RD K r d1 d2 d) : EvT K p q (tOp r te tf) Γ (c + c') P2 := fun b σ H lb sa tp Q k =>
  h1 b σ H (by omega) sa tp _ fun v H1 d1 pd1 n1 e1 t1 a1 => h2 (b - c) σ H1 (by omega) (sa.keep g (tp.keep e1)) t1 _ fun v2 H2 d2 pd2 n2 e2 t2 a2 => by
    obtain ⟨d, p2, nd, rd⟩ := hr d1 d2 pd1 pd2
    exact rd v v2 H2 (At.keep (t1.keep e2) n1 a1) a2 Q fun v3 H3 e3 a3 => k v3 H3 d p2 nd ((e1.trans e2).trans (SameS.of e3)) ((t2.same e3).le (by omega)) a3
/-- [..][pick] -/
theorem evt_ixL {t : TA} (g : nlG Γ) (h1 : EvTA K p q t Γ c A) (hl : ∀ ds, A ds → ds.length ≤ 100000) (h2 : EvT K p q tf Γ c' P') {P2 : D → Prop} (hr : ∀ ds d2, A ds → P' d2 → ∃ (i : Nat) (d : D), d2 = .int (i : Int) ∧ ds[i]? = some d ∧ P2 d) : EvT K p q (tOp (rIx K) (tLst t) tf) Γ (c + c') P2 := fun b σ H lb sa tp Q k =>
  h1 b σ H (by omega) sa tp _ fun vs H1 ds a n1 e1 t1 a1 => ⟨by rw [AtL.len a1]; exact sz5 (hl ds a), fun r hr0 => by
    have e1' := e1.trans (SameS.of (S := [p]) (Same.new (o := .lst vs) hr0))
    have t1' := t1.same (Same.new (o := .lst vs) hr0)
    have np : r ≠ p := by
      rintro rfl
      obtain ⟨_, _, _, _, h, _⟩ := t1
      rw [hr0] at h; cases h
    refine h2 (b - c) σ _ (by omega) (sa.keep g (tp.keep e1')) t1' _ fun v2 H2 d2 pd2 n2 e2 t2 a2 => ?_
    obtain ⟨i, d, ei, hd, p2⟩ := hr ds d2 a pd2
    subst ei
    obtain ⟨v, hv, av⟩ := AtL.get a1 hd
    have hr2 : H2 r = some (.lst vs) := e2 r _ (by simpa using np) L2.upd_same
    have nd : nl d = true := by
      have : ∀ (ds : List D) (i : Nat), nlL ds = true → ds[i]? = some d → nl d = true := by
        intro ds
        induction ds with
        | nil => intro i _ h; simp at h
        | cons x xs ih =>
          intro i hn h
          simp only [nlL, Bool.and_eq_true] at hn
          cases i with
          | zero => have : x = d := by simpa using h
                    rw [← this]; exact hn.1
          | succ i => exact ih i hn.2 (by simpa using h)
      exact this ds i n1 hd
    refine .inl ⟨r, vs, (i : Int), v, rfl, a2, SqL.of hr2, atI_of hv, k v H2 d p2 nd (e1'.trans e2) (t2.le (by omega)) (At.keep (t1.keep ((SameS.of (Same.new hr0)).trans e2)) nd av)⟩⟩
theorem evt_if {tt : TT} {bb : Bool} (h : EvB K tt Γ bb) (h1 : bb = true → EvT K p q te Γ c P) (h2 : bb = false → EvT K p q tf Γ c P) : EvT K p q (tIf tt te tf) Γ c P := fun b σ H lb sa tp Q k => h σ H sa _ fun H1 e => by
  cases bb with
  | true => exact iteT (h1 rfl b σ H1 lb (sa.mono e) (tp.same e) Q fun v H2 d pd n e2 t a => k v H2 d pd n ((SameS.of e).trans e2) t a)
  | false => exact iteF (h2 rfl b σ H1 lb (sa.mono e) (tp.same e) Q fun v H2 d pd n e2 t a => k v H2 d pd n ((SameS.of e).trans e2) t a)
/-! statements -/
def QT (K : PySem.W.Frag) (p q : Addr) (t : TS) (Γ : Gm) (b : Nat) (nx : Gm → Nat → Prop) (rt : D → Nat → Prop) : Prop := ∀ σ H (E : Ends), SA K H σ Γ → nlG Γ → Tap p q b H →
  (∀ Γ' b' σ' H', nx Γ' b' → SameS [p] H H' → SA K H' σ' Γ' → nlG Γ' → Tap p q b' H' → E.nx σ' H') → (∀ d v b' H', rt d b' → nl d = true → SameS [p] H H' → Tap p q b' H' → At K H' d v → E.rt v H') → t E σ H
variable {b : Nat} {nx : Gm → Nat → Prop} {rt : D → Nat → Prop} {t u : TS} {bb : Bool} {tt : TT}
theorem qt_seq (h : QT K p q t Γ b (fun Γ' b' => QT K p q u Γ' b' nx rt) rt) : QT K p q (tSeq t u) Γ b nx rt := fun σ H E sa g tp n r =>
  h σ H { E with nx := u E } sa g tp (fun Γ' b' σ' H' k e sa' g' tp' => k σ' H' E sa' g' tp' (fun Γ2 b2 σ2 H2 a e2 s2 g2 t2 => n Γ2 b2 σ2 H2 a (e.trans e2) s2 g2 t2) fun d v b2 H2 a nd e2 t2 at2 => r d v b2 H2 a nd (e.trans e2) t2 at2) r
theorem qt_next (h : nx Γ b) : QT K p q tNext Γ b nx rt := fun σ H E sa g tp n r => n Γ b σ H h SameS.refl sa g tp
theorem qt_set {i : Nat} (h : EvT K p q te Γ c P) (l : c ≤ b) (hn : ∀ d, P d → nx (Γ.set i (some d)) (b - c)) : QT K p q (tAsg te (gName i)) Γ b nx rt := fun σ H E sa g tp n r =>
  h b σ H l sa tp _ fun v H1 d pd nd e t a => n _ _ _ H1 (hn d pd) e ((sa.keep g (tp.keep e)).set a) (g.set nd) t
theorem qt_ret (h : EvT K p q te Γ c P) (l : c ≤ b) (hn : ∀ d, P d → rt d (b - c)) : QT K p q (tRet te) Γ b nx rt := fun σ H E sa g tp n r =>
  h b σ H l sa tp _ fun v H1 d pd nd e t a => r d v _ H1 (hn d pd) nd e t a
theorem qt_if (h : EvB K tt Γ bb) (h1 : bb = true → QT K p q t Γ b nx rt) (h2 : bb = false → QT K p q u Γ b nx rt) : QT K p q (tIfS tt t u) Γ b nx rt := fun σ H E sa g tp n r => h σ H sa _ fun H1 e => by
  cases bb with
  | true => exact iteT (h1 rfl σ H1 E (sa.mono e) g (tp.same e) (fun Γ' b' σ' H' a e' s' g' t' => n Γ' b' σ' H' a ((SameS.of e).trans e') s' g' t') fun d v b' H' a nd e' t' c => r d v b' H' a nd ((SameS.of e).trans e') t' c)
  | false => exact iteF (h2 rfl σ H1 E (sa.mono e) g (tp.same e) (fun Γ' b' σ' H' a e' s' g' t' => n Γ' b' σ' H' a ((SameS.of e).trans e') s' g' t') fun d v b' H' a nd e' t' c => r d v b' H' a nd ((SameS.of e).trans e') t' c)
theorem qt_par {i j : Nat} {ta : TA} (h : EvTA K p q ta Γ c (fun ds => ∃ d1 d2, ds = [d1, d2] ∧ P d1 ∧ P' d2)) (l : c ≤ b) (hn : ∀ d1 d2, P d1 → P' d2 → nx ((Γ.set i (some d1)).set j (some d2)) (b - c)) : QT K p q (tPar i j ta) Γ b nx rt := fun σ H E sa g tp n r =>
  h b σ H l sa tp _ fun vs H1 ds ⟨d1, d2, e0, p1, p2⟩ nd e t a => by
    subst e0
    simp only [nlL, Bool.and_eq_true] at nd
    obtain ⟨v, r1, e1, a1, w, r2, e2, a2, e3⟩ := a
    exact ⟨v, w, by rw [e1, e2, show r2 = [] from e3], n _ _ _ H1 (hn d1 d2 p1 p2) e (((sa.keep g (tp.keep e)).set a1).set a2) ((g.set nd.1).set nd.2.1) t⟩
theorem qt_nf {Γ' : Gm} (e : Γ = Γ') (h : QT K p q t Γ' b nx rt) : QT K p q t Γ b nx rt := e ▸ h
end
section
variable {P : Program} {w : World} {K : PySem.W.Frag} {mg : Str → Option Value} {base : Heap}
theorem fn_tap {x qual : Str} {st : Stmt} {f : Addr} {fd : FuncData} {N ps : List Str} {k : Nat} {R : List D → Nat → (D → Prop) → Prop} (F : Fun K x qual st f fd) (S : FnScope N ps (defScope st)) (hl : ∀ ds c Pp, R ds c Pp → ds.length + 1 = ps.length)
    (hb : ∀ (cdv : Value) (A : Around) (outer : List Env) (s : Shared) (H : Hp) (E : XK), Room k (A.deeper (envOfC qual (defScope st) s.heap.objs.size f cdv)) →
      ∃ t, PSs (cxOf CX0 P w K mg base N qual (defScope st) f cdv A outer s H E).nox (defBody st) t ∧ ∀ p q b ds c Pp, R ds c Pp → c ≤ b → nlL ds = true → QT K p q t ((.ref p :: ds).map some ++ List.replicate (N.length - (.ref p :: ds).length) none) b (fun _ b' => Pp .non ∧ b - c ≤ b') (fun d b' => Pp d ∧ b - c ≤ b')) :
    FnOk P w K mg base CX0 (k + 1) f fd ps (spT K R) := by
  refine F.ok S (fun vs H Q E h => ?_) (fun cdv A outer s H vs Q E hr h => ?_)
  · obtain ⟨p, q, b, ds, c, Pp, r, _, _, a, _⟩ := h
    rw [AtL.len a, List.length_cons, hl ds c Pp r]
  · obtain ⟨p, q, b, ds, c, Pp, r, lb, nd, a, tp, k⟩ := h
    obtain ⟨t, ht, hq⟩ := hb cdv A outer s H E hr
    refine ⟨t, ht, hq p q b ds c Pp r lb nd _ H _ (sa_start a) ?_ tp (fun Γ' b' σ' H' pp e _ _ t' => ?_) fun d v b' H' pp nd' e t' a' => k v H' d pp.1 nd' e (t'.le pp.2) a'⟩
    · intro i d hi
      by_cases z : i < (D.ref p :: ds).length
      · rw [List.getElem?_append_left (by simpa using z), List.getElem?_map] at hi
        cases e : (D.ref p :: ds)[i]? with
        | none => rw [e] at hi; cases hi
        | some d' =>
          rw [e] at hi
          have hi : some d' = some d := Option.some.inj hi
          cases hi
          cases i with
          | zero => have : D.ref p = d := by simpa using e
                    rw [← this]; rfl
          | succ i =>
            have e : ds[i]? = some d := by simpa using e
            have : ∀ (ds : List D) (i : Nat), nlL ds = true → ds[i]? = some d → nl d = true := by
              intro ds
              induction ds with
              | nil => intro i _ h; simp at h
              | cons x xs ih =>
                intro i hn h
                simp only [nlL, Bool.and_eq_true] at hn
                cases i with
                | zero => have : x = d := by simpa using h
                          rw [← this]; exact hn.1
                | succ i => exact ih i hn.2 (by simpa using h)
            exact this ds i nd e
      · rw [List.getElem?_append_right (by simpa using z)] at hi
        obtain ⟨_, e⟩ := List.getElem?_eq_some_iff.mp hi
        rw [List.getElem_replicate] at e; cases e
    · exact k .non H' .non pp.1 rfl e (t'.le pp.2) rfl
end
end Wk
set_option Elab.async false
set_option linter.all false
set_option maxRecDepth 100000
set_option maxHeartbeats 4000000
/-! the picks -/
namespace Wk
open PySem PySem.Spec PyProof.Rows L2
theorem ixN_at {n j : Nat} (hj : j < n) : ixN n (j : Int) = some j := by
  unfold ixN
  rw [if_pos (by omega), if_pos (by omega), Int.toNat_natCast]
def QW (K : PySem.W.Frag) (p q : Addr) (xs : List Int) (t : TS) (Γ : Gm) (ys : List V) (nx : Gm → List V → Prop) (rt : D → List V → Prop) : Prop := ∀ σ H (E : Ends), SA K H σ Γ → nlG Γ → H p = some (.lst ys) → H q = some (.lst (xs.map V.int)) →
  (∀ Γ' ys' σ' H', nx Γ' ys' → SameS [p] H H' → SA K H' σ' Γ' → nlG Γ' → H' p = some (.lst ys') → H' q = some (.lst (xs.map V.int)) → E.nx σ' H') →
  (∀ d v ys' H', rt d ys' → nl d = true → SameS [p] H H' → H' p = some (.lst ys') → H' q = some (.lst (xs.map V.int)) → At K H' d v → E.rt v H') → t E σ H
section
variable {K : PySem.W.Frag} {p q : Addr} {xs : List Int} {Γ : Gm} {te tf : TE} {d d1 d2 : D} {ys : List V} {nx : Gm → List V → Prop} {rt : D → List V → Prop} {t u : TS} {bb : Bool} {tt : TT}
theorem qw_seq (h : QW K p q xs t Γ ys (fun Γ' ys' => QW K p q xs u Γ' ys' nx rt) rt) : QW K p q xs (tSeq t u) Γ ys nx rt := fun σ H E sa g hp hq n r =>
  h σ H { E with nx := u E } sa g hp hq (fun Γ' b' σ' H' k e sa' g' tp' tq' => k σ' H' E sa' g' tp' tq' (fun Γ2 b2 σ2 H2 a e2 s2 g2 t2 t3 => n Γ2 b2 σ2 H2 a (e.trans e2) s2 g2 t2 t3) fun d v b2 H2 a nd e2 t2 t3 at2 => r d v b2 H2 a nd (e.trans e2) t2 t3 at2) r
theorem qw_next (h : nx Γ ys) : QW K p q xs tNext Γ ys nx rt := fun σ H E sa g hp hq n r => n Γ ys σ H h SameS.refl sa g hp hq
theorem qw_nf {Γ' : Gm} (e : Γ = Γ') (h : QW K p q xs t Γ' ys nx rt) : QW K p q xs t Γ ys nx rt := e ▸ h
theorem sa_stock {σ : L2.St} {H : Hp} (sa : SA K H σ Γ) (h2 : Γ[2]? = some (some (.ref q))) (hq : H q = some (.lst (xs.map V.int))) : SA K H σ (Γ.set 2 (some (.lst (xs.map D.int)))) := by
  refine ⟨by rw [List.length_set]; exact sa.len, fun i d e => ?_⟩
  by_cases z : 2 = i
  · subst z
    have hl : 2 < Γ.length := (List.getElem?_eq_some_iff.mp h2).1
    rw [List.getElem?_set_self hl] at e
    cases e
    obtain ⟨v, ev, av⟩ := sa.at_ 2 _ h2
    refine ⟨v, ev, q, xs.map V.int, av, SqL.of hq, ?_⟩
    clear hq
    induction xs with
    | nil => rfl
    | cons x xs ih => exact ⟨_, _, rfl, rfl, ih⟩
  · rw [List.getElem?_set_ne z] at e; exact sa.at_ i d e
/-- with the stock as a list -/
theorem qw_set {i : Nat} (h2 : Γ[2]? = some (some (.ref q))) (h : Ev K te (Γ.set 2 (some (.lst (xs.map D.int)))) d) (nd : nl d = true) (hn : nx (Γ.set i (some d)) ys) : QW K p q xs (tAsg te (gName i)) Γ ys nx rt := fun σ H E sa g hp hq n r =>
  h σ H (sa_stock sa h2 hq) _ fun v H1 e a => n _ _ _ H1 hn (SameS.of e) ((sa.mono e).set a) (g.set nd) (e _ _ hp) (e _ _ hq)
theorem qw_ret (h : Ev K te Γ d) (nd : nl d = true) (hr : rt d ys) : QW K p q xs (tRet te) Γ ys nx rt := fun σ H E sa g hp hq n r =>
  h σ H sa _ fun v H1 e a => r d v ys H1 hr nd (SameS.of e) (e _ _ hp) (e _ _ hq) a
theorem qw_if (h2 : Γ[2]? = some (some (.ref q))) (h : EvB K tt (Γ.set 2 (some (.lst (xs.map D.int)))) bb) (h1 : bb = true → QW K p q xs t Γ ys nx rt) (h0 : bb = false → QW K p q xs u Γ ys nx rt) : QW K p q xs (tIfS tt t u) Γ ys nx rt := fun σ H E sa g hp hq n r => h σ H (sa_stock sa h2 hq) _ fun H1 e => by
  cases bb with
  | true => exact iteT (h1 rfl σ H1 E (sa.mono e) g (e _ _ hp) (e _ _ hq) (fun Γ' b' σ' H' a e' s' g' t' t2 => n Γ' b' σ' H' a ((SameS.of e).trans e') s' g' t' t2) fun d v b' H' a nd e' t' t2 c => r d v b' H' a nd ((SameS.of e).trans e') t' t2 c)
  | false => exact iteF (h0 rfl σ H1 E (sa.mono e) g (e _ _ hp) (e _ _ hq) (fun Γ' b' σ' H' a e' s' g' t' t2 => n Γ' b' σ' H' a ((SameS.of e).trans e') s' g' t' t2) fun d v b' H' a nd e' t' t2 c => r d v b' H' a nd ((SameS.of e).trans e') t' t2 c)
/-- tap[j] = an int -/
theorem qw_put {i : Int} {j : Nat} (h0 : Γ[0]? = some (some (.ref p))) (np : p ≠ q) (h : Ev K te Γ (.int i)) (hj : j < ys.length) (hn : nx Γ (ys.set j (.int i))) : QW K p q xs (tAsg te (gSub (tVar 0) (tC (.int (j : Int))) rSetL)) Γ ys nx rt := fun σ H E sa g hp hq n r =>
  h σ H sa _ fun v H1 e a => by
    have sa1 := sa.mono e
    obtain ⟨v0, e0, a0⟩ := sa1.at_ 0 _ h0
    have hp1 := e _ _ hp
    have k := KeepT.lst (ys := ys.set j (.int i)) hp1
    refine ⟨v0, e0, p, ys, (j : Int), j, a0, rfl, hp1, ixN_at hj, ?_⟩
    rw [show v = .int i from a]
    refine n _ _ _ _ hn ((SameS.of e).trans (SameS.upd (List.mem_singleton.mpr rfl))) (sa1.keep g k) g L2.upd_same ?_
    rw [L2.upd_ne np.symm]
    exact e _ _ hq
/-- a, b, c, d = the tap -/
theorem qw_unl {a r' t' : Int} (h0 : Γ[0]? = some (some (.ref p))) (e0 : ys = [.ref q, .int a, .int r', .int t']) (hn : nx ((((Γ.set 2 (some (.ref q))).set 3 (some (.int a))).set 4 (some (.int r'))).set 5 (some (.int t'))) ys) :
    QW K p q xs (tAsg (tVar 0) (gLst K 4 (gCons (gName 2) (gCons (gName 3) (gCons (gName 4) (gCons (gName 5) gNil)))))) Γ ys nx rt := fun σ H E sa g hp hq n r => by
  obtain ⟨v0, ev0, a0⟩ := sa.at_ 0 _ h0
  refine ⟨v0, ev0, p, ys, a0, SqL.of hp, by rw [e0]; rfl, ?_⟩
  subst e0
  refine ⟨_, _, rfl, _, _, rfl, _, _, rfl, _, _, rfl, rfl, ?_⟩
  exact n _ _ _ H hn SameS.refl ((((sa.set (d := .ref q) rfl).set (d := .int a) rfl).set (d := .int r') rfl).set (d := .int t') rfl) ((((g.set rfl).set rfl).set rfl).set rfl) hp hq
end
section
variable {P : Program} {w : World} {K : PySem.W.Frag} {mg : Str → Option Value} {base : Heap}
local macro_rules | `(tactic| walk_at "ev") => `(tactic| first
  | exact ev_int | exact ev_str | exact ev_non | exact ev_bl | exact ev_pt0 | exact ev_ref | exact ev_var rfl
  | (refine ev_tup ?_ (sz5 (Nat.le_of_ble_eq_true rfl)); walk_at "eva")
  | (refine ev_op (d1 := .tup _) (r := rIx _) ?_ ?_ (rd_ixT' ?_ ?_); walk_at "ev"; walk_at "ev"; (first | decide | omega); (first | rfl | assumption))
  | (refine ev_op ?_ ?_ rd_int; walk_at "ev"; walk_at "ev")
  | assumption)
local macro_rules | `(tactic| walk_at "gd") => `(tactic| simp only [gdL, gdD, gd_optN, gd_optI, gd_told, gd_rs, gL_int, gL_rs, c_stamp, c_held, c_ended, Bool.and_true, Bool.true_and, Bool.and_self])
local macro_rules | `(tactic| walk_at "nf") => `(tactic| refine q_nf (by simp only [List.map_cons, List.map_nil, List.cons_append, List.nil_append, List.length_cons, List.length_nil, List.replicate_succ, List.replicate_zero, List.set_cons_succ, List.set_cons_zero, Nat.reduceAdd, Nat.reduceSub, N_is_number, N_need_hand, N_gives, N_rests, N_begins, N_reads_cell, N_retries, N_walks, N_locks_next, N_written_by, N_sure_by, N_locks, N_checks, N_woken_by, N_backs, N_step]; exact rfl) ?_)
local macro_rules | `(tactic| walk_at "eva") => `(tactic| first | exact eva_nil | (refine eva_cons ?_ ?_; walk_at "ev"; walk_at "eva"))
local macro_rules | `(tactic| walk_at "nw") => `(tactic| refine qw_nf (by simp only [List.map_cons, List.map_nil, List.cons_append, List.nil_append, List.length_cons, List.length_nil, List.replicate_succ, List.replicate_zero, List.set_cons_succ, List.set_cons_zero, Nat.reduceAdd, Nat.reduceSub, N__law_pick]; exact rfl) ?_)
theorem fmod_lo {i m : Int} (h : 0 < m) : 0 ≤ i.fmod m := by rw [Int.fmod_eq_emod_of_nonneg i (by omega)]; exact Int.emod_nonneg _ (by omega)
theorem fmod_hi {i m : Int} (h : 0 < m) : i.fmod m < m := by rw [Int.fmod_eq_emod_of_nonneg i (by omega)]; exact Int.emod_lt_of_pos _ h
def R_pick (ds : List D) (c : Nat) (Q : D → Prop) : Prop := ∃ m : Nat, ds = [.int (m : Int)] ∧ 1 ≤ m ∧ m ≤ 1000000 ∧ c = 1 ∧ Q = fun d => ∃ i : Nat, i < m ∧ d = .int (i : Int)
theorem pick_res {x : Int} {m : Nat} (h : 1 ≤ m) : ∃ i : Nat, i < m ∧ D.int (x.fmod (m : Int)) = .int (i : Int) := by
  have h1 := fmod_lo (i := x) (m := (m : Int)) (by omega)
  have h2 := fmod_hi (i := x) (m := (m : Int)) (by omega)
  exact ⟨(x.fmod m).toNat, by omega, by rw [Int.toNat_of_nonneg h1]⟩
theorem ok_pick (T : Txt K w mg) : FnOk P w K mg base CX0 1 T.d__law_pick.f T.d__law_pick.fd ["_law_tap_here", "_law_many"] (spT K R_pick) := by
  refine T.d__law_pick.F.ok sc__law_pick (fun vs H Q E h => ?_) (fun cdv A outer s H vs Q E hr h => ?_)
  · obtain ⟨p, q, b, ds, c, Pp, ⟨m, rfl, _⟩, _, _, a, _⟩ := h
    rw [AtL.len a]; rfl
  obtain ⟨p, q, b, ds, c, Pp, ⟨m, rfl, m1, m2, rfl, rfl⟩, lb, nd, al, tp, kk⟩ := h
  refine ⟨_, (pss_cons (ps_asg (pv 0) (pg_lst rfl (pgs_cons (pg_name (i := 2) sc__law_pick.nd rfl (Or.inl rfl)) (pgs_cons (pg_name (i := 3) sc__law_pick.nd rfl (Or.inl rfl)) (pgs_cons (pg_name (i := 4) sc__law_pick.nd rfl (Or.inl rfl)) (pgs_cons (pg_name (i := 5) sc__law_pick.nd rfl (Or.inl rfl)) pgs_nil))))))
    (pss_cons (ps_asg (pe_op op_add (pv 5) pe_int) (pg_sub (pv 0) pe_int set_list))
    (pss_cons (ps_if (pt_cmpR op_gt (pv 4) pe_int (nomark _)) (pss_cons (ps_asg (pe_op op_fdivN (pv 4) (pv 1)) (pg_sub (pv 0) pe_int set_list))
    (pss_one (ps_ret (pe_op op_modN (pv 4) (pv 1))))) pss_nil)
    (pss_cons (ps_asg (pe_op op_add (pv 3) pe_int) (pg_sub (pv 0) pe_int set_list))
    (pss_cons (ps_set (i := 6) sc__law_pick.nd rfl (Or.inl rfl) (pe_ifExp (pt_cmpR (op_neD hr.units) (pv 2) (pe_lst pa_nil) (nomark _)) (pe_ix ix_seq (pv 2) (pe_op op_modN (pv 3) (pe_callB call_len_seq (by rfl) T.z_len PySem.boot_len (pa_cons (pv 2) pa_nil))) (fun _ _ => rfl)) pe_int))
    (pss_cons (ps_if (PW.pt (pw_and (pt_cmpR op_ge (pv 6) (pe_op op_pow pe_int pe_int) (nomark _)) (pw_and1 (pt_cmpR op_lt (pv 3) (pe_callB call_len_seq (by rfl) T.z_len PySem.boot_len (pa_cons (pv 2) pa_nil)) (nomark _))))) (pss_cons (ps_asg (pe_op op_fdivN (pv 6) (pv 1)) (pg_sub (pv 0) pe_int set_list))
    (pss_one (ps_ret (pe_op op_modN (pv 6) (pv 1))))) pss_nil)
    (pss_cons (ps_set (i := 7) sc__law_pick.nd rfl (Or.inl rfl) (pe_op op_modN (pe_op op_pow (pe_op op_add (pe_op op_modN (pv 6) pe_int) (pe_op op_mul pe_int (pe_op op_add (pv 5) pe_int))) pe_int) pe_int))
    (pss_cons (ps_set (i := 7) sc__law_pick.nd rfl (Or.inl rfl) (pe_op op_modN (pe_op op_pow (pe_op op_add (pe_op op_add (pv 7) (pe_op op_mul pe_int (pv 5))) pe_int) pe_int) pe_int))
    (pss_cons (ps_set (i := 7) sc__law_pick.nd rfl (Or.inl rfl) (pe_op op_modN (pe_op op_pow (pe_op op_add (pe_op op_add (pv 7) (pe_op op_mul (pe_op op_modN (pv 6) pe_int) pe_int)) (pv 5)) pe_int) pe_int))
    (pss_one (ps_ret (pe_op op_modN (pe_op op_fdivN (pv 7) pe_int) (pv 1))))))))))))), ?_⟩
  have np := tp.ne
  obtain ⟨a, r, t, xs, h1, h2, h3, h4, h5, h6⟩ := tp
  have key : ∀ {tr : TS}, QW K p q xs tr ((.ref p :: [D.int (m : Int)]).map some ++ List.replicate (N__law_pick.length - (D.ref p :: [D.int (m : Int)]).length) none) [.ref q, .int a, .int r, .int t] (fun _ _ => False) (fun d ys => (∃ i : Nat, i < m ∧ d = .int (i : Int)) ∧ ∃ a' r' : Int, 0 ≤ a' ∧ ys = [.ref q, .int a', .int r', .int (t + 1)]) → tr { nx := fun _ H' => Q .non H', rt := Q } (start N__law_pick vs) H := fun hq => by
    refine hq _ H _ (sa_start al) ?_ h1 h2 (fun _ _ _ _ f _ _ _ _ _ => f.elim) fun d v ys H' ⟨hd, a', r', ha, ey⟩ nd' e hp' hq' at' => ?_
    · intro i d hi
      match i with
      | 0 => have : some (D.ref p) = some d := Option.some.inj hi; rw [← Option.some.inj this]; rfl
      | 1 => have : some (D.int (m : Int)) = some d := Option.some.inj hi; rw [← Option.some.inj this]; rfl
      | n + 2 =>
        have hi : (List.replicate 6 (none : Option D))[n]? = some (some d) := hi
        obtain ⟨_, e⟩ := List.getElem?_eq_some_iff.mp hi
        rw [List.getElem_replicate] at e; cases e
    · refine kk v H' d hd nd' e ⟨a', r', t + 1, xs, by rw [hp', ey], hq', ha, by omega, by omega, h6⟩ at'
  refine key ?_
  walk_at "nw"
  refine qw_seq (qw_unl (a := a) (r' := r) (t' := t) rfl rfl ?_)
  walk_at "nw"
  refine qw_seq (qw_put (i := t + 1) (j := 3) rfl np (ev_op (ev_var rfl) ev_int rd_int) (Nat.le_of_ble_eq_true rfl) ?_)
  have cm : CDivN r (m : Int) := ⟨by omega, by rw [Int.natAbs_natCast]; omega⟩
  have cm' : ∀ x : Int, CDivN x (m : Int) := fun x => ⟨by omega, by rw [Int.natAbs_natCast]; omega⟩
  have mz : (m : Int) ≠ 0 := by omega
  refine qw_seq (qw_if (bb := decide (0 < r)) rfl (eb_test (ev_op (ev_var rfl) ev_int rd_gt)) (fun b => ?_) fun b => qw_next ?_)
  · refine qw_seq (qw_put (i := r.fdiv m) (j := 2) rfl np (ev_op (ev_var rfl) (ev_var rfl) (rd_I (cm' r))) (Nat.le_of_ble_eq_true rfl) ?_)
    exact qw_ret (d := .int (r.fmod m)) (ev_op (ev_var rfl) (ev_var rfl) (rd_I (c := fun _ j => j ≠ 0) mz)) rfl ⟨pick_res m1, a, _, h3, rfl⟩
  refine qw_seq (qw_put (i := a + 1) (j := 1) rfl np (ev_op (ev_var rfl) ev_int rd_int) (Nat.le_of_ble_eq_true rfl) ?_)
  have hcell : ∃ cell : Int, ∀ {Γ : Gm}, Γ[2]? = some (some (.lst (xs.map D.int))) → Γ[3]? = some (some (.int a)) → Ev K (tIf (tTest (tOp (rNeD K) (tVar 2) (tLst tNil))) (tOp (rIx K) (tVar 2) (tOp (rI (fun _ j => j ≠ 0) fun i j => .int (i.fmod j)) (tVar 3) (tCB (fun xs H Q => ∃ p ys, xs = [V.ref p] ∧ (SqL K H p ys ∨ SqT K H p ys) ∧ Q (V.int (ys.length : Int)) H) (tCons (tVar 2) tNil)))) (tC (.int 11))) Γ (.int cell) := by
    by_cases hx : xs = []
    · refine ⟨11, fun g2 g3 => ev_if (b := false) ((eb_test (ev_op (ev_var g2) (ev_lst eva_nil (Nat.zero_le _)) (rd_neL (n := 0) (gdL_of fun _ _ => rfl) (by decide)))).eq (by rw [hx]; rfl)) (fun c => by cases c) fun _ => ev_int⟩
    · have hl : 0 < xs.length := List.length_pos_iff.mpr hx
      have i1 := fmod_lo (i := a) (m := (xs.length : Int)) (by omega)
      have i2 := fmod_hi (i := a) (m := (xs.length : Int)) (by omega)
      have hi : (a.fmod (xs.length : Int)).toNat < xs.length := by omega
      refine ⟨xs[(a.fmod (xs.length : Int)).toNat], fun g2 g3 => ev_if (b := true) ((eb_test (ev_op (ev_var g2) (ev_lst eva_nil (Nat.zero_le _)) (rd_neL (n := 0) (gdL_of fun _ _ => rfl) (by decide)))).eq ?_) (fun _ => ?_) fun c => by cases c⟩
      · cases xs with
        | nil => exact (hx rfl).elim
        | cons x xs => rfl
      · refine ev_op (ev_var g2) (ev_op (ev_var g3) (ev_cb (eva_cons (ev_var g2) eva_nil) rc_lenL) (rd_I (c := fun _ j => j ≠ 0) (by rw [List.length_map]; omega))) (rd_ixL' (by rw [List.length_map]; exact i1) ?_)
        rw [List.length_map, List.getElem?_map, List.getElem?_eq_getElem hi]
        rfl
  obtain ⟨cell, hcell⟩ := hcell
  refine qw_seq (qw_set (d := .int cell) rfl (hcell rfl rfl) rfl ?_)
  walk_at "nw"
  refine qw_seq (qw_if (bb := decide ((10 : Int) ^ (18 : Int).toNat ≤ cell) && decide (a < ((xs.map D.int).length : Int))) rfl (eb_and (eb_test (ev_op (d1 := .int cell) (d2 := .int ((10 : Int) ^ (18 : Int).toNat)) (ev_var rfl) (ev_op ev_int ev_int (rd_I (g := fun i j => i ^ j.toNat) ⟨by decide, by decide, by decide⟩)) rd_bl)) fun _ => eb_test (ev_op (ev_var rfl) (ev_cb (eva_cons (ev_var rfl) eva_nil) rc_lenL) rd_bl)) (fun b => ?_) fun b => qw_next ?_)
  · refine qw_seq (qw_put (i := cell.fdiv m) (j := 2) rfl np (ev_op (ev_var rfl) (ev_var rfl) (rd_I (cm' cell))) (Nat.le_of_ble_eq_true rfl) ?_)
    exact qw_ret (d := .int (cell.fmod m)) (ev_op (ev_var rfl) (ev_var rfl) (rd_I (c := fun _ j => j ≠ 0) mz)) rfl ⟨pick_res m1, a + 1, _, by omega, rfl⟩
  have c0 := fmod_lo (i := cell) (m := 2147483549) (by decide)
  have c1 := fmod_hi (i := cell) (m := 2147483549) (by decide)
  have c2 := fmod_lo (i := cell) (m := 999983) (by decide)
  have c3 := fmod_hi (i := cell) (m := 999983) (by decide)
  have cp : ∀ x : Int, 0 ≤ x → x < 18446744073709551616 → CPow x 2 := fun x x1 x2 => ⟨by decide, by decide, by omega⟩
  have hstep1 : ∃ m1 : Int, (0 ≤ m1 ∧ m1 < 2147483629) ∧ m1 = ((cell.fmod 2147483549 + 6291469 * (t + 3)) ^ (2 : Int).toNat).fmod 2147483629 := ⟨_, ⟨fmod_lo (by decide), fmod_hi (by decide)⟩, rfl⟩
  obtain ⟨x1, hx1, ex1⟩ := hstep1
  refine qw_seq (qw_set (d := .int x1) rfl (by
    rw [ex1]
    exact ev_op (ev_op (ev_op (ev_op (ev_var rfl) ev_int (rd_I (c := fun _ j => j ≠ 0) (g := fun i j => i.fmod j) (by decide))) (ev_op ev_int (ev_op (ev_var rfl) ev_int rd_int) (rd_I (c := CMul) (g := fun i j => i * j) (.inl ⟨by decide, by decide⟩))) (rd_int (g := fun i j => i + j))) ev_int (rd_I (c := CPow) (g := fun i j => i ^ j.toNat) (cp _ (by omega) (by omega)))) ev_int (rd_I (c := fun _ j => j ≠ 0) (g := fun i j => i.fmod j) (by decide))) rfl ?_)
  walk_at "nw"
  obtain ⟨x2, hx2, ex2⟩ : ∃ m1 : Int, (0 ≤ m1 ∧ m1 < 2147483647) ∧ m1 = ((x1 + 7654321 * t + 5) ^ (2 : Int).toNat).fmod 2147483647 := ⟨_, ⟨fmod_lo (by decide), fmod_hi (by decide)⟩, rfl⟩
  refine qw_seq (qw_set (d := .int x2) rfl (by
    rw [ex2]
    exact ev_op (ev_op (ev_op (ev_op (ev_var rfl) (ev_op ev_int (ev_var rfl) (rd_I (c := CMul) (g := fun i j => i * j) (.inl ⟨by decide, by decide⟩))) (rd_int (g := fun i j => i + j))) ev_int (rd_int (g := fun i j => i + j))) ev_int (rd_I (c := CPow) (g := fun i j => i ^ j.toNat) (cp _ (by omega) (by omega)))) ev_int (rd_I (c := fun _ j => j ≠ 0) (g := fun i j => i.fmod j) (by decide))) rfl ?_)
  walk_at "nw"
  obtain ⟨x3, hx3, ex3⟩ : ∃ m1 : Int, (0 ≤ m1 ∧ m1 < 2147483549) ∧ m1 = ((x2 + cell.fmod 999983 * 3 + t) ^ (2 : Int).toNat).fmod 2147483549 := ⟨_, ⟨fmod_lo (by decide), fmod_hi (by decide)⟩, rfl⟩
  refine qw_seq (qw_set (d := .int x3) rfl (by
    rw [ex3]
    exact ev_op (ev_op (ev_op (ev_op (ev_var rfl) (ev_op (ev_op (ev_var rfl) ev_int (rd_I (c := fun _ j => j ≠ 0) (g := fun i j => i.fmod j) (by decide))) ev_int (rd_I (c := CMul) (g := fun i j => i * j) (.inr ⟨by decide, by decide⟩))) (rd_int (g := fun i j => i + j))) (ev_var rfl) (rd_int (g := fun i j => i + j))) ev_int (rd_I (c := CPow) (g := fun i j => i ^ j.toNat) (cp _ (by omega) (by omega)))) ev_int (rd_I (c := fun _ j => j ≠ 0) (g := fun i j => i.fmod j) (by decide))) rfl ?_)
  walk_at "nw"
  exact qw_ret (d := .int ((x3.fdiv 64).fmod m)) (ev_op (ev_op (ev_var rfl) ev_int (rd_I (c := CDivN) (g := fun i j => i.fdiv j) ⟨by decide, by decide⟩)) (ev_var rfl) (rd_I (c := fun _ j => j ≠ 0) mz)) rfl ⟨pick_res m1, a + 1, r, by omega, rfl⟩
end
end Wk
set_option Elab.async false
set_option linter.all false
set_option maxRecDepth 100000
set_option maxHeartbeats 4000000
/-! what is picked: numbers, sums, programs -/
namespace Wk
open PySem PySem.Spec PyProof.Rows L2
theorem nl_sm : ∀ {e : Sm}, nl (smD e) = true
  | .num _ => rfl
  | .slot _ => rfl
  | .plus l r => by simp [smD, nl, nlL, nl_sm (e := l), nl_sm (e := r)]
  | .minus l r => by simp [smD, nl, nlL, nl_sm (e := l), nl_sm (e := r)]
  | .less l r => by simp [smD, nl, nlL, nl_sm (e := l), nl_sm (e := r)]
mutual
theorem nl_sp : ∀ {z : Sp'}, nl (spD' z) = true
  | .read _ _ => rfl
  | .write _ e => by simp [spD', nl, nlL, nl_sm]
  | .letS _ e => by simp [spD', nl, nlL, nl_sm]
  | .tell e => by simp [spD', nl, nlL, nl_sm]
  | .ifS e p q => by simp [spD', nl, nlL, nl_sm, nl_pgL (p := p), nl_pgL (p := q)]
  | .inner p q => by simp [spD', nl, nlL, nl_pgL (p := p), nl_pgL (p := q)]
  | .either p q => by simp [spD', nl, nlL, nl_pgL (p := p), nl_pgL (p := q)]
  | .out => rfl
  | .retry => rfl
theorem nl_pgL : ∀ {p : Pg}, nlL (pgL p) = true
  | [] => rfl
  | z :: p => by simp [pgL, nlL, nl_sp (z := z), nl_pgL (p := p)]
end
theorem nl_pg {p : Pg} : nl (pgD p) = true := nl_pgL (p := p)
section
variable {K : PySem.W.Frag} {p q : Addr} {Γ : Gm} {te tx : TE} {c c' b : Nat} {P P' : D → Prop} {nx : Gm → Nat → Prop} {rt : D → Nat → Prop}
abbrev rTupL (K : PySem.W.Frag) : List V → Hp → VK → Prop := fun xs H Q => ∃ p ys, xs = [V.ref p] ∧ ((SqL K H p ys ∧ ∀ l, H l = none → Q (V.ref l) (L2.upd H l (HO.tup ys))) ∨ SqT K H p ys ∧ Q (V.ref p) H)
/-- found = []; for k in range(te): found.append(tx); return tuple(found) -/
theorem qt_collect {j k N : Nat} (hjk : j ≠ k) (hj : j < Γ.length)
    (h1 : ∀ l : Addr, EvT K p q te (Γ.set j (some (.ref l))) c P) (hP : ∀ d, P d → ∃ n : Nat, n ≤ N ∧ d = .int (n : Int)) (hN : N ≤ 1000)
    (h2 : ∀ Γ' : Gm, (∀ i, i ≠ j → i ≠ k → Γ'[i]? = Γ[i]?) → EvT K p q tx Γ' c' P') (hb : c + N * c' ≤ b)
    (hr : ∀ (ds : List D) b', ds.length ≤ N → (∀ d ∈ ds, P' d) → b - (c + N * c') ≤ b' → rt (.tup ds) b') :
    QT K p q (tSeq (tAsg (tLst tNil) (gName j)) (tSeq (tFor (iRng1 (tCons te tNil)) (gName k) (tDrop (tBM K "list" rAppend (tVar j) (tCons tx tNil)))) (tRet (tCB (rTupL K) (tCons (tVar j) tNil))))) Γ b nx rt := fun σ H E sa g tp n r => by
  refine ⟨Nat.zero_le _, fun l hl => ?_⟩
  have tp1 := tp.same (Same.new (o := .lst []) hl)
  have hlp : l ≠ p := by
    rintro rfl
    obtain ⟨_, _, _, _, h, _⟩ := tp
    rw [hl] at h; cases h
  have hlq : l ≠ q := by
    rintro rfl
    obtain ⟨_, _, _, _, _, h, _⟩ := tp
    rw [hl] at h; cases h
  have sa1 : SA K (L2.upd H l (.lst [])) (σ.set j (some (.ref l))) (Γ.set j (some (.ref l))) := (sa.mono (Same.new hl)).set rfl
  refine h1 l b _ _ (by omega) sa1 tp1 _ fun v H1 d pd nd e1 t1 a1 => ?_
  obtain ⟨m, hm, rfl⟩ := hP d pd
  rw [show v = .int (m : Int) from a1]
  have g1 : nlG (Γ.set j (some (.ref l))) := g.set rfl
  have hl1 : H1 l = some (.lst []) := e1 l _ (by simpa using hlp) L2.upd_same
  have mc : m * c' ≤ N * c' := Nat.mul_le_mul_right _ hm
  refine ⟨(m : Int), rfl, by omega, by omega, fun i mm σ' H' => mm = m - i ∧ i ≤ m ∧ SameS [p] H H' ∧ ∃ (Γ' : Gm) (acc : List V) (ds : List D), SA K H' σ' Γ' ∧ nlG Γ' ∧ Γ'[j]? = some (some (.ref l)) ∧ (∀ i, i ≠ j → i ≠ k → Γ'[i]? = Γ[i]?) ∧ Tap p q (b - (c + i * c')) H' ∧ H' l = some (.lst acc) ∧ AtL K H' ds acc ∧ nlL ds = true ∧ ds.length = i ∧ ∀ d ∈ ds, P' d, ⟨m, by simp, Nat.zero_le _, (SameS.of (Same.new hl)).trans e1, _, [], [], sa1.keep g1 (tp1.keep e1), g1, ?_, ?_, by rw [Nat.zero_mul]; exact t1, hl1, rfl, rfl, rfl, by simp⟩, ?_⟩
  · rw [List.getElem?_set_self hj]
  · intro i i1 i2; rw [List.getElem?_set_ne (fun z => i1 z.symm)]
  rintro i mm σ' H' ⟨rfl, hi, e2, Γ', acc, ds, sa2, g2, gj, gi, t2, hacc, al, nds, dl, dp⟩
  rw [Int.toNat_natCast]
  by_cases hlt : i < m
  · refine .inr ⟨hlt, fun σ2 H2 => i + 1 ≤ m ∧ SameS [p] H H2 ∧ ∃ (Γ' : Gm) (acc : List V) (ds : List D), SA K H2 σ2 Γ' ∧ nlG Γ' ∧ Γ'[j]? = some (some (.ref l)) ∧ (∀ i, i ≠ j → i ≠ k → Γ'[i]? = Γ[i]?) ∧ Tap p q (b - (c + (i + 1) * c')) H2 ∧ H2 l = some (.lst acc) ∧ AtL K H2 ds acc ∧ nlL ds = true ∧ ds.length = i + 1 ∧ ∀ d ∈ ds, P' d, fun σ2 H2 z => ⟨m - (i + 1), by omega, rfl, z⟩, fun x H3 y => ?_⟩
    obtain ⟨eH, y⟩ := y
    subst eH
    show tDrop (tBM K "list" rAppend (tVar j) (tCons tx tNil)) _ (σ'.set k (some x)) H3
    have sa3 : SA K H3 (σ'.set k (some x)) (Γ'.set k (some (.int (0 + (i : Int))))) := sa2.set y
    have g3 : nlG (Γ'.set k (some (.int (0 + (i : Int))))) := g2.set rfl
    have gj3 : (Γ'.set k (some (.int (0 + (i : Int)))))[j]? = some (some (.ref l)) := by rw [List.getElem?_set_ne hjk.symm]; exact gj
    have gi3 : ∀ i2, i2 ≠ j → i2 ≠ k → (Γ'.set k (some (.int (0 + (i : Int)))))[i2]? = Γ[i2]? := fun i2 a1 a2 => by rw [List.getElem?_set_ne (fun z => a2 z.symm)]; exact gi i2 a1 a2
    obtain ⟨vl, evl, avl⟩ := sa3.at_ j _ gj3
    refine ⟨vl, evl, ?_⟩
    rw [show vl = .ref l from avl]
    refine ⟨.inl ⟨rfl, acc, SqL.of hacc⟩, ?_⟩
    have ib : (i + 1) * c' ≤ N * c' := Nat.mul_le_mul_right _ (by omega)
    rw [Nat.succ_mul] at ib
    refine h2 _ gi3 (b - (c + i * c')) _ H3 (by omega) sa3 t2 _ fun v4 H4 d4 pd4 nd4 e4 t4 a4 => ?_
    have hacc4 : H4 l = some (.lst acc) := e4 l _ (by simpa using hlp) hacc
    have k4 := t2.keep e4
    have k5 := KeepT.lst (ys := acc ++ [v4]) hacc4
    refine ⟨l, acc, v4, rfl, rfl, hacc4, ?_, ?_⟩
    · rw [AtL.len al, dl]; exact szl (by omega)
    · show i + 1 ≤ m ∧ _
      have same5 : SameS [p] H (L2.upd H4 l (.lst (acc ++ [v4]))) := fun b u nb hb => by
        rw [L2.upd_ne (by rintro rfl; rw [hl] at hb; cases hb)]
        exact e4 b u nb (e2 b u nb hb)
      have t5 : Tap p q (b - (c + (i + 1) * c')) (L2.upd H4 l (.lst (acc ++ [v4]))) := by
        obtain ⟨a, r, t, xs, f1, f2, f3, f4, f5, f6⟩ := t4
        refine ⟨a, r, t, xs, by rw [L2.upd_ne hlp.symm]; exact f1, by rw [L2.upd_ne hlq.symm]; exact f2, f3, f4, ?_, f6⟩
        have : (i + 1) * c' = i * c' + c' := Nat.succ_mul i c'
        omega
      refine ⟨hlt, same5, _, acc ++ [v4], ds ++ [d4], (sa3.keep g3 k4).keep g3 k5, g3, gj3, gi3, t5, L2.upd_same, AtL.append (AtL.keep k5 nds (AtL.keep k4 nds al)) (AtL.one (At.keep k5 nd4 a4)), ?_, by rw [List.length_append, dl]; rfl, ?_⟩
      · have : ∀ as : List D, nlL as = true → nlL (as ++ [d4]) = true := by
          intro as
          induction as with
          | nil => intro _; simp [nlL, nd4]
          | cons a as ih => intro h; simp only [nlL, Bool.and_eq_true, List.cons_append] at h ⊢; exact ⟨h.1, ih h.2⟩
        exact this ds nds
      · intro d hd
        rcases List.mem_append.mp hd with hd | hd
        · exact dp d hd
        · rw [List.mem_singleton.mp hd]; exact pd4
  · have e : i = m := by omega
    subst e
    refine .inl ⟨Nat.le_refl _, ?_⟩
    obtain ⟨vl, evl, avl⟩ := sa2.at_ j _ gj
    refine ⟨vl, evl, l, acc, by rw [show vl = .ref l from avl], .inl ⟨SqL.of hacc, fun r0 hr0 => ?_⟩⟩
    refine r (.tup ds) _ (b - (c + i * c')) _ (hr ds _ (by omega) dp (by omega)) nds (e2.trans (SameS.of (Same.new hr0))) (t2.same (Same.new hr0)) (At.tup_new hr0 al)
end
section
variable {P : Program} {w : World} {K : PySem.W.Frag} {mg : Str → Option Value} {base : Heap}
local macro_rules | `(tactic| walk_at "ev") => `(tactic| first
  | exact ev_int | exact ev_str | exact ev_non | exact ev_bl | exact ev_pt0 | exact ev_ref | exact ev_var rfl
  | (refine ev_tup ?_ (sz5 (Nat.le_of_ble_eq_true rfl)); walk_at "eva")
  | (refine ev_op (d1 := .tup _) (r := rIx _) ?_ ?_ (rd_ixT' ?_ ?_); walk_at "ev"; walk_at "ev"; (first | decide | omega); (first | rfl | assumption))
  | (refine ev_op ?_ ?_ rd_int; walk_at "ev"; walk_at "ev")
  | assumption)
local macro_rules | `(tactic| walk_at "gd") => `(tactic| simp only [gdL, gdD, gd_optN, gd_optI, gd_told, gd_rs, gL_int, gL_rs, c_stamp, c_held, c_ended, Bool.and_true, Bool.true_and, Bool.and_self])
local macro_rules | `(tactic| walk_at "nf") => `(tactic| refine q_nf (by simp only [List.map_cons, List.map_nil, List.cons_append, List.nil_append, List.length_cons, List.length_nil, List.replicate_succ, List.replicate_zero, List.set_cons_succ, List.set_cons_zero, Nat.reduceAdd, Nat.reduceSub, N_is_number, N_need_hand, N_gives, N_rests, N_begins, N_reads_cell, N_retries, N_walks, N_locks_next, N_written_by, N_sure_by, N_locks, N_checks, N_woken_by, N_backs, N_step]; exact rfl) ?_)
local macro_rules | `(tactic| walk_at "eva") => `(tactic| first | exact eva_nil | (refine eva_cons ?_ ?_; walk_at "ev"; walk_at "eva"))
local macro_rules | `(tactic| walk_at "nt") => `(tactic| refine qt_nf (by simp only [List.map_cons, List.map_nil, List.cons_append, List.nil_append, List.length_cons, List.length_nil, List.replicate_succ, List.replicate_zero, List.set_cons_succ, List.set_cons_zero, Nat.reduceAdd, Nat.reduceSub, N__law_number, N__law_amount, N__law_steps, N__law_one, N__law_pact]; exact rfl) ?_)
theorem ev_pick {Γ : Gm} {p q : Addr} {ta : TE} {E : XK} {i m : Nat} (h : Γ[i]? = some (some (.ref p))) (ha : Ev K ta Γ (.int (m : Int))) (h1 : 1 ≤ m) (h2 : m ≤ 1000000) : EvT K p q (tCall (spT K R_pick) [] E (tCons (tVar i) (tCons ta tNil))) Γ 1 (fun d => ∃ i : Nat, i < m ∧ d = .int (i : Int)) :=
  evt_call0 (eva_cons (ev_var h) (eva_cons ha eva_nil)) rfl ⟨m, rfl, h1, h2, rfl, rfl⟩
def R_number (ds : List D) (c : Nat) (Q : D → Prop) : Prop := ds = [] ∧ c = 4 ∧ Q = fun d => ∃ i : Int, d = .int i
theorem ok_number (T : Txt K w mg) : FnOk P w K mg base CX0 2 T.d__law_number.f T.d__law_number.fd ["_law_tap_here"] (spT K R_number) := by
  have G__law_pick := ok_pick (P := P) (base := base) T
  refine fn_tap T.d__law_number.F sc__law_number (fun ds c Q h => by obtain ⟨rfl, _⟩ := h; rfl) fun cdv A outer s H E hr => ?_
  refine ⟨_, (pss_one (ps_ret (pe_ix ix_seq (pe_lst (pa_cons pe_int (pa_cons pe_int (pa_cons pe_int (pa_cons pe_int (pa_cons (pe_call G__law_pick (hr.mono (by first | decide | omega)) rfl T.d__law_pick.m T.d__law_pick.kp (b__law_pick T.d__law_pick.F) .nil pass0 (pa_cons (pv 0) (pa_cons pe_int pa_nil))) (pa_cons (pe_op op_add pe_int (pe_call G__law_pick (hr.mono (by first | decide | omega)) rfl T.d__law_pick.m T.d__law_pick.kp (b__law_pick T.d__law_pick.F) .nil pass0 (pa_cons (pv 0) (pa_cons pe_int pa_nil)))) (pa_cons (pe_op op_sub pe_int (pe_call G__law_pick (hr.mono (by first | decide | omega)) rfl T.d__law_pick.m T.d__law_pick.kp (b__law_pick T.d__law_pick.F) .nil pass0 (pa_cons (pv 0) (pa_cons pe_int pa_nil)))) pa_nil)))))))) (pe_call G__law_pick (hr.mono (by first | decide | omega)) rfl T.d__law_pick.m T.d__law_pick.kp (b__law_pick T.d__law_pick.F) .nil pass0 (pa_cons (pv 0) (pa_cons pe_int pa_nil))) (fun _ _ => rfl)))), fun p q b ds c Pp h lb nd => ?_⟩
  obtain ⟨rfl, rfl, rfl⟩ := h
  walk_at "nt"
  have gg : nlG [some (.ref p)] := fun i d h => by
    match i with
    | 0 => have : some (D.ref p) = some d := Option.some.inj h; rw [← Option.some.inj this]; rfl
    | n + 1 => cases h
  refine qt_ret (c := 4) (P := fun d => ∃ i : Int, d = .int i) ?_ lb fun d hd => ⟨hd, Nat.le_refl _⟩
  refine evt_ixL (c := 3) (c' := 1) (A := fun ds => ∃ a b c : Int, ds = [.int 0, .int 1, .int 9, .int 10, .int a, .int b, .int c]) gg ?_ (fun ds h => by obtain ⟨_, _, _, rfl⟩ := h; exact (by decide : 7 ≤ 100000)) (ev_pick rfl ev_int (by decide) (by decide)) fun ds d2 h1 h2 => ?_
  · intro b σ H lb sa tp Q k
    refine evta_cons gg (evt_of ev_int rfl) (evta_cons gg (evt_of ev_int rfl) (evta_cons gg (evt_of ev_int rfl) (evta_cons gg (evt_of ev_int rfl) (evta_cons gg (ev_pick (m := 10) rfl ev_int (by decide) (by decide)) (evta_cons gg (evt_op (P2 := fun d => ∃ i : Int, d = .int i) gg (evt_of ev_int rfl) (ev_pick (m := 3) rfl ev_int (by decide) (by decide)) ?_) (evta_cons gg (evt_op (P2 := fun d => ∃ i : Int, d = .int i) gg (evt_of ev_int rfl) (ev_pick (m := 12) rfl ev_int (by decide) (by decide)) ?_) evta_nil)))))) b σ H lb sa tp Q fun vs H' ds h => ?_
    · rintro d1 d2 rfl ⟨i, _, rfl⟩; exact ⟨_, ⟨_, rfl⟩, rfl, rd_int⟩
    · rintro d1 d2 rfl ⟨i, _, rfl⟩; exact ⟨_, ⟨_, rfl⟩, rfl, rd_int⟩
    · obtain ⟨_, _, rfl, rfl, _, _, rfl, rfl, _, _, rfl, rfl, _, _, rfl, rfl, _, _, rfl, ⟨i, _, rfl⟩, _, _, rfl, ⟨j, rfl⟩, _, _, rfl, ⟨k2, rfl⟩, rfl⟩ := h
      exact k _ _ _ ⟨_, _, _, rfl⟩
  · obtain ⟨a, b, c, rfl⟩ := h1
    obtain ⟨i, hi, rfl⟩ := h2
    match i, hi with
    | 0, _ => exact ⟨0, _, rfl, rfl, _, rfl⟩
    | 1, _ => exact ⟨1, _, rfl, rfl, _, rfl⟩
    | 2, _ => exact ⟨2, _, rfl, rfl, _, rfl⟩
    | 3, _ => exact ⟨3, _, rfl, rfl, _, rfl⟩
    | 4, _ => exact ⟨4, _, rfl, rfl, _, rfl⟩
    | 5, _ => exact ⟨5, _, rfl, rfl, _, rfl⟩
    | 6, _ => exact ⟨6, _, rfl, rfl, _, rfl⟩
end
end Wk
set_option Elab.async false
set_option linter.all false
set_option maxRecDepth 100000
set_option maxHeartbeats 4000000
/-! sums and programs that are picked -/
namespace Wk
open PySem PySem.Spec PyProof.Rows L2
def nlGb (Γ : Gm) : Bool := Γ.all fun o => match o with | none => true | some d => nl d
theorem nlG_of {Γ : Gm} (h : nlGb Γ = true) : nlG Γ := fun i d e => by
  have := List.all_eq_true.mp h (some d) (List.mem_of_getElem? e)
  exact this
section
variable {P : Program} {w : World} {K : PySem.W.Frag} {mg : Str → Option Value} {base : Heap}
local macro_rules | `(tactic| walk_at "ev") => `(tactic| first
  | exact ev_int | exact ev_str | exact ev_non | exact ev_bl | exact ev_pt0 | exact ev_ref | exact ev_var rfl
  | (refine ev_tup ?_ (sz5 (Nat.le_of_ble_eq_true rfl)); walk_at "eva")
  | (refine ev_op (d1 := .tup _) (r := rIx _) ?_ ?_ (rd_ixT' ?_ ?_); walk_at "ev"; walk_at "ev"; (first | decide | omega); (first | rfl | assumption))
  | (refine ev_op ?_ ?_ rd_int; walk_at "ev"; walk_at "ev")
  | assumption)
local macro_rules | `(tactic| walk_at "gd") => `(tactic| simp only [gdL, gdD, gd_optN, gd_optI, gd_told, gd_rs, gL_int, gL_rs, c_stamp, c_held, c_ended, Bool.and_true, Bool.true_and, Bool.and_self])
local macro_rules | `(tactic| walk_at "nf") => `(tactic| refine q_nf (by simp only [List.map_cons, List.map_nil, List.cons_append, List.nil_append, List.length_cons, List.length_nil, List.replicate_succ, List.replicate_zero, List.set_cons_succ, List.set_cons_zero, Nat.reduceAdd, Nat.reduceSub, N_is_number, N_need_hand, N_gives, N_rests, N_begins, N_reads_cell, N_retries, N_walks, N_locks_next, N_written_by, N_sure_by, N_locks, N_checks, N_woken_by, N_backs, N_step]; exact rfl) ?_)
local macro_rules | `(tactic| walk_at "eva") => `(tactic| first | exact eva_nil | (refine eva_cons ?_ ?_; walk_at "ev"; walk_at "eva"))
local macro_rules | `(tactic| walk_at "nt") => `(tactic| refine qt_nf (by simp only [List.map_cons, List.map_nil, List.cons_append, List.nil_append, List.length_cons, List.length_nil, List.replicate_succ, List.replicate_zero, List.set_cons_succ, List.set_cons_zero, Nat.reduceAdd, Nat.reduceSub, N__law_number, N__law_amount, N__law_steps, N__law_one, N__law_pact]; exact rfl) ?_)
local macro_rules | `(tactic| walk_at "nl") => `(tactic| exact nlG_of (by simp [nlGb, nl, nlL, nl_sm, nl_pg]))
theorem ok_neverT {x qual : Str} {st : Stmt} {f : Addr} {fd : FuncData} {N ps : List Str} {R : List D → Nat → (D → Prop) → Prop} (F : Fun K x qual st f fd) (S : FnScope N ps (defScope st)) (hR : ∀ ds c Q, ¬ R ds c Q) : FnOk P w K mg base CX0 1 f fd ps (spT K R) := by
  refine F.ok S (fun vs H Q E h => ?_) (fun cdv A outer s H vs Q E hr h => ?_)
  · obtain ⟨p, q, b, ds, c, Pp, r, _⟩ := h; exact (hR _ _ _ r).elim
  · obtain ⟨p, q, b, ds, c, Pp, r, _⟩ := h; exact (hR _ _ _ r).elim
theorem eb_eqI {Γ : Gm} {j : Nat} {i k : Int} (h : Γ[j]? = some (some (.int i))) : EvB K (tTest (tOp rEq (tVar j) (tC (.int k)))) Γ (decide (i = k)) := (eb_test (ev_op (ev_var h) ev_int (rd_eq rfl rfl rfl))).eq (decide_eq_decide.mpr ⟨fun e => V.int.inj e, fun e => by rw [e]⟩)
theorem eb_ltI {Γ : Gm} {j : Nat} {i k : Int} (h : Γ[j]? = some (some (.int i))) : EvB K (tTest (tOp (rI0 fun i j => .bl (decide (i < j))) (tVar j) (tC (.int k)))) Γ (decide (i < k)) := eb_test (ev_op (ev_var h) ev_int rd_bl)
def amtC : Nat → Nat
  | 0 => 0
  | n + 1 => 6 + 2 * amtC n
def R_amount (n : Nat) (ds : List D) (c : Nat) (Q : D → Prop) : Prop := ∃ deep : Nat, ds = [.int (deep : Int)] ∧ deep < n ∧ c = amtC n ∧ Q = fun d => ∃ e : Sm, d = smD e ∧ e.dep ≤ deep
theorem ev_abx {Γ : Gm} {p q : Addr} {i : Nat} {E : XK} (g : nlG Γ) (h : Γ[i]? = some (some (.ref p))) : EvT K p q (tOp (rIx K) (tLst (tCons (tC (.str "a")) (tCons (tC (.str "b")) (tCons (tC (.str "x")) tNil)))) (tCall (spT K R_pick) [] E (tCons (tVar i) (tCons (tC (.int 3)) tNil)))) Γ 1 (fun d => ∃ s : Sl, d = .str s.str) := by
  refine evt_ixL (c := 0) (c' := 1) (A := fun ds => ds = [.str "a", .str "b", .str "x"]) g (evta_of (eva_cons ev_str (eva_cons ev_str (eva_cons ev_str eva_nil))) rfl) (fun ds h => by rw [h]; exact (by decide : 3 ≤ 100000)) (ev_pick (m := 3) h ev_int (by decide) (by decide)) fun ds d2 h1 h2 => ?_
  subst h1
  obtain ⟨i, hi, rfl⟩ := h2
  match i, hi with
  | 0, _ => exact ⟨0, _, rfl, rfl, .a, rfl⟩
  | 1, _ => exact ⟨1, _, rfl, rfl, .b, rfl⟩
  | 2, _ => exact ⟨2, _, rfl, rfl, .x, rfl⟩
theorem ok_amount (T : Txt K w mg) : ∀ n : Nat, FnOk P w K mg base CX0 (n + 2) T.d__law_amount.f T.d__law_amount.fd ["_law_tap_here", "_law_deep"] (spT K (R_amount n))
  | 0 => (ok_neverT (P := P) (base := base) T.d__law_amount.F sc__law_amount fun ds c Q h => by obtain ⟨_, _, h, _⟩ := h; omega).mono (by decide)
  | n + 1 => by
    have G__law_amount := ok_amount T n
    have G__law_pick := ok_pick (P := P) (base := base) T
    have G__law_number := ok_number (P := P) (base := base) T
    refine fn_tap T.d__law_amount.F sc__law_amount (fun ds c Q h => by obtain ⟨_, rfl, _⟩ := h; rfl) fun cdv A outer s H E hr => ?_
    refine ⟨_, (pss_cons (ps_set (i := 2) sc__law_amount.nd rfl (Or.inl rfl) (pe_call G__law_pick (hr.mono (by first | decide | omega)) rfl T.d__law_pick.m T.d__law_pick.kp (b__law_pick T.d__law_pick.F) .nil pass0 (pa_cons (pv 0) (pa_cons (pe_ifExp (pt_cmpR op_gt (pv 1) pe_int (nomark _)) pe_int pe_int) pa_nil))))
    (pss_cons (ps_if (pt_cmpR op_eq (pv 2) pe_int (nomark _)) (pss_one (ps_ret (pe_tup (pa_cons pe_str (pa_cons (pe_call G__law_number (hr.mono (by first | decide | omega)) rfl T.d__law_number.m T.d__law_number.kp (b__law_number T.d__law_number.F) .nil pass0 (pa_cons (pv 0) pa_nil)) pa_nil))))) pss_nil)
    (pss_cons (ps_if (pt_cmpR op_eq (pv 2) pe_int (nomark _)) (pss_one (ps_ret (pe_tup (pa_cons pe_str (pa_cons (pe_ix ix_seq (pe_lst (pa_cons pe_str (pa_cons pe_str (pa_cons pe_str pa_nil)))) (pe_call G__law_pick (hr.mono (by first | decide | omega)) rfl T.d__law_pick.m T.d__law_pick.kp (b__law_pick T.d__law_pick.F) .nil pass0 (pa_cons (pv 0) (pa_cons pe_int pa_nil))) (fun _ _ => rfl)) pa_nil))))) pss_nil)
    (pss_cons (ps_set (i := 3) sc__law_amount.nd rfl (Or.inl rfl) (pe_call G__law_amount (hr.mono (by first | decide | omega)) rfl T.d__law_amount.m T.d__law_amount.kp (b__law_amount T.d__law_amount.F) .nil pass0 (pa_cons (pv 0) (pa_cons (pe_op op_sub (pv 1) pe_int) pa_nil))))
    (pss_one (ps_ret (pe_tup (pa_cons (pe_ix ix_seq (pe_lst (pa_cons pe_str (pa_cons pe_str (pa_cons pe_str pa_nil)))) (pe_op op_sub (pv 2) pe_int) (fun _ _ => rfl)) (pa_cons (pv 3) (pa_cons (pe_call G__law_amount (hr.mono (by first | decide | omega)) rfl T.d__law_amount.m T.d__law_amount.kp (b__law_amount T.d__law_amount.F) .nil pass0 (pa_cons (pv 0) (pa_cons (pe_op op_sub (pv 1) pe_int) pa_nil))) pa_nil)))))))))), fun p q b ds c Pp h lb nd => ?_⟩
    obtain ⟨deep, rfl, hd, rfl, rfl⟩ := h
    have hc : amtC (n + 1) = 6 + 2 * amtC n := rfl
    rw [hc] at lb ⊢
    walk_at "nt"
    refine qt_seq (qt_set (c := 1) (ev_pick (m := if deep > 0 then 5 else 2) rfl ?_ (by split <;> decide) (by split <;> decide)) (by omega) fun d hd2 => ?_)
    · refine ev_if (b := decide ((0 : Int) < deep)) (eb_test (ev_op (ev_var rfl) ev_int rd_gt)) (fun c => ?_) fun c => ?_
      · have c := of_decide_eq_true c
        rw [if_pos (by omega)]; exact ev_int
      · have c := of_decide_eq_false c
        rw [if_neg (by omega)]; exact ev_int
    obtain ⟨i, hi, rfl⟩ := hd2
    walk_at "nt"
    refine qt_seq (qt_if (eb_eqI rfl) (fun c => ?_) fun c0 => qt_next ?_)
    · refine qt_ret (c := 4) (P := fun d => ∃ e : Sm, d = smD e ∧ e.dep ≤ deep) ?_ (by omega) fun d h => ⟨h, by omega⟩
      refine evt_le (evt_tup (evta_cons (by walk_at "nl") (evt_of ev_str rfl) (evta_cons (by walk_at "nl") (evt_call0 (eva_cons (ev_var rfl) eva_nil) rfl ⟨rfl, rfl, rfl⟩) evta_nil)) fun ds h => ?_) (Nat.le_refl _) fun d h => ?_
      · obtain ⟨_, _, rfl, _, _, _, rfl, _, rfl⟩ := h; exact (by decide : 2 ≤ 100000)
      · obtain ⟨_, ⟨_, _, rfl, rfl, _, _, rfl, ⟨j, rfl⟩, rfl⟩, rfl⟩ := h
        exact ⟨.num j, rfl, Nat.zero_le _⟩
    refine qt_seq (qt_if (eb_eqI rfl) (fun c => ?_) fun c1 => qt_next ?_)
    · refine qt_ret (c := 4) (P := fun d => ∃ e : Sm, d = smD e ∧ e.dep ≤ deep) ?_ (by omega) fun d h => ⟨h, by omega⟩
      refine evt_le (evt_tup (evta_cons (by walk_at "nl") (evt_of ev_str rfl) (evta_cons (by walk_at "nl") (ev_abx (by walk_at "nl") rfl) evta_nil)) fun ds h => ?_) (by decide) fun d h => ?_
      · obtain ⟨_, _, rfl, _, _, _, rfl, _, rfl⟩ := h; exact (by decide : 2 ≤ 100000)
      · obtain ⟨_, ⟨_, _, rfl, rfl, _, _, rfl, ⟨j, rfl⟩, rfl⟩, rfl⟩ := h
        exact ⟨.slot j, rfl, Nat.zero_le _⟩
    have c0 := of_decide_eq_false c0
    have c1 := of_decide_eq_false c1
    have hdp : 0 < deep := by
      refine Nat.pos_of_ne_zero fun z => ?_
      rw [if_neg (by omega)] at hi
      omega
    rw [if_pos (by omega)] at hi
    have call : ∀ {Γ : Gm} {E : XK}, Γ[0]? = some (some (.ref p)) → Γ[1]? = some (some (.int (deep : Int))) → EvT K p q (tCall (spT K (R_amount n)) [] E (tCons (tVar 0) (tCons (tOp (rI0 fun i j => .int (i - j)) (tVar 1) (tC (.int 1))) tNil))) Γ (amtC n) (fun d => ∃ e : Sm, d = smD e ∧ e.dep ≤ deep - 1) := fun g0 g1 =>
      evt_call0 (ds := [.int ((deep - 1 : Nat) : Int)]) (eva_cons (ev_var g0) (eva_cons ((ev_op (ev_var g1) ev_int rd_int).eq (by congr 1; omega)) eva_nil)) rfl ⟨deep - 1, rfl, by omega, rfl, rfl⟩
    refine qt_seq (qt_set (call rfl rfl) (by omega) fun d h1 => ?_)
    obtain ⟨e1, rfl, de1⟩ := h1
    walk_at "nt"
    refine qt_ret (c := amtC n) (P := fun d => ∃ e : Sm, d = smD e ∧ e.dep ≤ deep) ?_ (by omega) fun d h => ⟨h, by omega⟩
    obtain ⟨z, hz⟩ : ∃ z : Str, [D.str "plus", .str "minus", .str "less"][i - 2]? = some (.str z) ∧ (z = "plus" ∨ z = "minus" ∨ z = "less") := by
      have : i = 2 ∨ i = 3 ∨ i = 4 := by omega
      rcases this with rfl | rfl | rfl
      · exact ⟨_, rfl, .inl rfl⟩
      · exact ⟨_, rfl, .inr (.inl rfl)⟩
      · exact ⟨_, rfl, .inr (.inr rfl)⟩
    refine evt_le (evt_tup (evta_cons (by walk_at "nl") (evt_of (d := .str z) (ev_op (d2 := .int ((i - 2 : Nat) : Int)) (ev_lst (eva_cons ev_str (eva_cons ev_str (eva_cons ev_str eva_nil))) (sz5 (Nat.le_of_ble_eq_true rfl))) ((ev_op (ev_var rfl) ev_int rd_int).eq (by congr 1; omega)) (rd_ixL' (by omega) (by rw [Int.toNat_natCast]; exact hz.1))) rfl) (evta_cons (by walk_at "nl") (evt_of (ev_var rfl) nl_sm) (evta_cons (by walk_at "nl") (call rfl rfl) evta_nil))) fun ds h => ?_) (by omega) fun d h => ?_
    · obtain ⟨_, _, rfl, _, _, _, rfl, _, _, _, rfl, _, rfl⟩ := h; exact (by decide : 3 ≤ 100000)
    · obtain ⟨_, ⟨_, _, rfl, rfl, _, _, rfl, rfl, _, _, rfl, ⟨e2, rfl, de2⟩, rfl⟩, rfl⟩ := h
      rcases hz.2 with rfl | rfl | rfl
      · exact ⟨.plus e1 e2, rfl, by show max _ _ + 1 ≤ _; omega⟩
      · exact ⟨.minus e1 e2, rfl, by show max _ _ + 1 ≤ _; omega⟩
      · exact ⟨.less e1 e2, rfl, by show max _ _ + 1 ≤ _; omega⟩
def oneC : Nat → Nat
  | 0 => 0
  | n + 1 => 60 + 2 * (1 + 3 * oneC n)
def szO : Nat → Nat
  | 0 => 0
  | n + 1 => 1 + 6 * szO n
def R_one (n : Nat) (ds : List D) (c : Nat) (Q : D → Prop) : Prop := ∃ stock deep : Nat, ds = [.int (stock : Int), .int (deep : Int)] ∧ 1 ≤ stock ∧ stock ≤ 1000 ∧ deep < n ∧ deep ≤ 2 ∧ c = oneC n ∧ Q = fun d => ∃ z : Sp', d = spD' z ∧ spOk stock z ∧ spDep z ≤ deep ∧ spSize z ≤ szO n
def R_steps (n : Nat) (ds : List D) (c : Nat) (Q : D → Prop) : Prop := ∃ stock deep most : Nat, ds = [.int (stock : Int), .int (deep : Int), .int (most : Int)] ∧ 1 ≤ stock ∧ stock ≤ 1000 ∧ deep < n ∧ deep ≤ 2 ∧ most ≤ 3 ∧ c = 1 + 3 * oneC n ∧ Q = fun d => ∃ z : Pg, d = pgD z ∧ pgOk stock z ∧ pgDep z ≤ deep ∧ pgSize z ≤ 3 * szO n
theorem pg_of {m e s : Nat} : ∀ {ds : List D}, (∀ d ∈ ds, ∃ z : Sp', d = spD' z ∧ spOk m z ∧ spDep z ≤ e ∧ spSize z ≤ s) → ∃ p : Pg, ds = pgL p ∧ pgOk m p ∧ pgDep p ≤ e ∧ pgSize p ≤ ds.length * s
  | [], _ => ⟨[], rfl, trivial, Nat.zero_le _, Nat.zero_le _⟩
  | d :: ds, h => by
    obtain ⟨z, rfl, h1, h2, h3⟩ := h d List.mem_cons_self
    obtain ⟨p, rfl, g1, g2, g3⟩ := pg_of (ds := ds) fun x hx => h x (List.mem_cons_of_mem _ hx)
    refine ⟨z :: p, rfl, ⟨h1, g1⟩, by show max _ _ ≤ _; omega, ?_⟩
    rw [List.length_cons, Nat.succ_mul]
    show spSize z + pgSize p ≤ _
    omega
theorem ok_steps (T : Txt K w mg) {n : Nat} (G__law_one : FnOk P w K mg base CX0 (2 * n + 6) T.d__law_one.f T.d__law_one.fd ["_law_tap_here", "_law_stock", "_law_deep"] (spT K (R_one n))) : FnOk P w K mg base CX0 (2 * n + 6 + 1) T.d__law_steps.f T.d__law_steps.fd ["_law_tap_here", "_law_stock", "_law_deep", "_law_most"] (spT K (R_steps n)) := by
  have G__law_pick := ok_pick (P := P) (base := base) T
  refine fn_tap T.d__law_steps.F sc__law_steps (fun ds c Q h => by obtain ⟨_, _, _, rfl, _⟩ := h; rfl) fun cdv A outer s H E hr => ?_
  refine ⟨_, (pss_cons (ps_set (i := 4) sc__law_steps.nd rfl (Or.inl rfl) (pe_lst pa_nil))
    (pss_cons (ps_for PassesOwn.never rfl (pi_range1 rfl T.z_range (pa_cons (pe_call G__law_pick (hr.mono (by first | decide | omega)) rfl T.d__law_pick.m T.d__law_pick.kp (b__law_pick T.d__law_pick.F) .nil pass0 (pa_cons (pv 0) (pa_cons (pe_op op_add (pv 3) pe_int) pa_nil))) pa_nil)) (pg_name (i := 5) sc__law_steps.nd rfl (Or.inl rfl)) (pss_one (ps_expr (pe_bm PySem.F.plainAttrs_list PySem.F.slot_list_append PySem.F.type_list_append mt_append (pv 4) (pa_cons (pe_call G__law_one (hr.mono (by first | decide | omega)) rfl T.d__law_one.m T.d__law_one.kp (b__law_one T.d__law_one.F) .nil pass0 (pa_cons (pv 0) (pa_cons (pv 1) (pa_cons (pv 2) pa_nil)))) pa_nil)))))
    (pss_one (ps_ret (pe_callTy call_tuple_of (by rfl) T.z_tuple (by decide +kernel) (pa_cons (pv 4) pa_nil)))))), fun p q b ds c Pp h lb nd => ?_⟩
  obtain ⟨stock, deep, most, rfl, s1, s2, d1, d2, m1, rfl, rfl⟩ := h
  walk_at "nt"
  refine qt_collect (N := 3) (c := 1) (c' := oneC n) (P := fun d => ∃ i : Nat, i < most + 1 ∧ d = .int (i : Int)) (P' := fun d => ∃ z : Sp', d = spD' z ∧ spOk stock z ∧ spDep z ≤ deep ∧ spSize z ≤ szO n) (by decide) (Nat.le_of_ble_eq_true rfl) (fun l => ?_) (fun d ⟨i, hi, e⟩ => ⟨i, by omega, e⟩) (by decide) (fun Γ' hg => ?_) (by omega) fun ds b' hlen hds hb => ?_
  · exact ev_pick (m := most + 1) rfl (ev_op (ev_var rfl) ev_int rd_int) (by omega) (by omega)
  · exact evt_call0 (eva_cons (ev_var (by rw [hg 0 (by decide) (by decide)]; rfl)) (eva_cons (ev_var (by rw [hg 1 (by decide) (by decide)]; rfl)) (eva_cons (ev_var (by rw [hg 2 (by decide) (by decide)]; rfl)) eva_nil))) rfl ⟨stock, deep, rfl, s1, s2, d1, d2, rfl, rfl⟩
  · obtain ⟨z, rfl, g1, g2, g3⟩ := pg_of hds
    exact ⟨⟨z, rfl, g1, g2, Nat.le_trans g3 (Nat.mul_le_mul_right _ hlen)⟩, by omega⟩
theorem ok_one (T : Txt K w mg) : ∀ n : Nat, FnOk P w K mg base CX0 (2 * n + 6) T.d__law_one.f T.d__law_one.fd ["_law_tap_here", "_law_stock", "_law_deep"] (spT K (R_one n))
  | 0 => (ok_neverT (P := P) (base := base) T.d__law_one.F sc__law_one fun ds c Q h => by obtain ⟨_, _, _, _, _, h, _⟩ := h; omega).mono (by decide)
  | n + 1 => by
    have G__law_steps := ok_steps T (ok_one T n)
    have G__law_pick := ok_pick (P := P) (base := base) T
    have G__law_amount := ok_amount (P := P) (base := base) T 3
    show FnOk P w K mg base CX0 (2 * n + 7 + 1) T.d__law_one.f T.d__law_one.fd ["_law_tap_here", "_law_stock", "_law_deep"] (spT K (R_one (n + 1)))
    refine fn_tap T.d__law_one.F sc__law_one (fun ds c Q h => by obtain ⟨_, _, rfl, _⟩ := h; rfl) fun cdv A outer s H E hr => ?_
    refine ⟨_, (pss_cons (ps_set (i := 3) sc__law_one.nd rfl (Or.inl rfl) (pe_call G__law_pick (hr.mono (by first | decide | omega)) rfl T.d__law_pick.m T.d__law_pick.kp (b__law_pick T.d__law_pick.F) .nil pass0 (pa_cons (pv 0) (pa_cons (pe_ifExp (pt_cmpR op_gt (pv 2) pe_int (nomark _)) pe_int pe_int) pa_nil))))
    (pss_cons (ps_if (pt_cmpR op_lt (pv 3) pe_int (nomark _)) (pss_one (ps_ret (pe_tup (pa_cons pe_str (pa_cons (pe_ix ix_seq (pe_lst (pa_cons pe_str (pa_cons pe_str (pa_cons pe_str pa_nil)))) (pe_call G__law_pick (hr.mono (by first | decide | omega)) rfl T.d__law_pick.m T.d__law_pick.kp (b__law_pick T.d__law_pick.F) .nil pass0 (pa_cons (pv 0) (pa_cons pe_int pa_nil))) (fun _ _ => rfl)) (pa_cons (pe_call G__law_pick (hr.mono (by first | decide | omega)) rfl T.d__law_pick.m T.d__law_pick.kp (b__law_pick T.d__law_pick.F) .nil pass0 (pa_cons (pv 0) (pa_cons (pv 1) pa_nil))) pa_nil)))))) pss_nil)
    (pss_cons (ps_if (pt_cmpR op_lt (pv 3) pe_int (nomark _)) (pss_one (ps_ret (pe_tup (pa_cons pe_str (pa_cons (pe_call G__law_pick (hr.mono (by first | decide | omega)) rfl T.d__law_pick.m T.d__law_pick.kp (b__law_pick T.d__law_pick.F) .nil pass0 (pa_cons (pv 0) (pa_cons (pv 1) pa_nil))) (pa_cons (pe_call G__law_amount (hr.mono (by first | decide | omega)) rfl T.d__law_amount.m T.d__law_amount.kp (b__law_amount T.d__law_amount.F) .nil pass0 (pa_cons (pv 0) (pa_cons pe_int pa_nil))) pa_nil)))))) pss_nil)
    (pss_cons (ps_if (pt_cmpR op_eq (pv 3) pe_int (nomark _)) (pss_one (ps_ret (pe_tup (pa_cons pe_str (pa_cons (pe_call G__law_amount (hr.mono (by first | decide | omega)) rfl T.d__law_amount.m T.d__law_amount.kp (b__law_amount T.d__law_amount.F) .nil pass0 (pa_cons (pv 0) (pa_cons pe_int pa_nil))) pa_nil))))) pss_nil)
    (pss_cons (ps_if (pt_cmpR op_eq (pv 3) pe_int (nomark _)) (pss_one (ps_ret (pe_tup (pa_cons pe_str (pa_cons (pe_ix ix_seq (pe_lst (pa_cons pe_str (pa_cons pe_str (pa_cons pe_str pa_nil)))) (pe_call G__law_pick (hr.mono (by first | decide | omega)) rfl T.d__law_pick.m T.d__law_pick.kp (b__law_pick T.d__law_pick.F) .nil pass0 (pa_cons (pv 0) (pa_cons pe_int pa_nil))) (fun _ _ => rfl)) (pa_cons (pe_call G__law_amount (hr.mono (by first | decide | omega)) rfl T.d__law_amount.m T.d__law_amount.kp (b__law_amount T.d__law_amount.F) .nil pass0 (pa_cons (pv 0) (pa_cons pe_int pa_nil))) pa_nil)))))) pss_nil)
    (pss_cons (ps_if (pt_cmpR op_eq (pv 3) pe_int (nomark _)) (pss_one (ps_ret (pe_ix ix_seq (pe_lst (pa_cons (pe_tup (pa_cons pe_str pa_nil)) (pa_cons (pe_tup (pa_cons pe_str pa_nil)) pa_nil))) (pe_call G__law_pick (hr.mono (by first | decide | omega)) rfl T.d__law_pick.m T.d__law_pick.kp (b__law_pick T.d__law_pick.F) .nil pass0 (pa_cons (pv 0) (pa_cons pe_int pa_nil))) (fun _ _ => rfl)))) pss_nil)
    (pss_cons (ps_set (i := 4) sc__law_one.nd rfl (Or.inl rfl) (pe_op op_sub pe_int (pv 2)))
    (pss_cons (ps_set (i := 5) sc__law_one.nd rfl (Or.inl rfl) (pe_call G__law_steps (hr.mono (by first | decide | omega)) rfl T.d__law_steps.m T.d__law_steps.kp (b__law_steps T.d__law_steps.F) .nil pass0 (pa_cons (pv 0) (pa_cons (pv 1) (pa_cons (pe_op op_sub (pv 2) pe_int) (pa_cons (pv 4) pa_nil))))))
    (pss_cons (ps_set (i := 6) sc__law_one.nd rfl (Or.inl rfl) (pe_call G__law_steps (hr.mono (by first | decide | omega)) rfl T.d__law_steps.m T.d__law_steps.kp (b__law_steps T.d__law_steps.F) .nil pass0 (pa_cons (pv 0) (pa_cons (pv 1) (pa_cons (pe_op op_sub (pv 2) pe_int) (pa_cons (pv 4) pa_nil))))))
    (pss_cons (ps_if (pt_cmpR op_lt (pv 3) pe_int (nomark _)) (pss_one (ps_ret (pe_tup (pa_cons pe_str (pa_cons (pe_call G__law_amount (hr.mono (by first | decide | omega)) rfl T.d__law_amount.m T.d__law_amount.kp (b__law_amount T.d__law_amount.F) .nil pass0 (pa_cons (pv 0) (pa_cons pe_int pa_nil))) (pa_cons (pv 5) (pa_cons (pv 6) pa_nil))))))) pss_nil)
    (pss_one (ps_ret (pe_tup (pa_cons (pe_ix ix_seq (pe_lst (pa_cons pe_str (pa_cons pe_str pa_nil))) (pe_op op_modN (pv 3) pe_int) (fun _ _ => rfl)) (pa_cons (pv 5) (pa_cons (pv 6) pa_nil)))))))))))))))), fun p q b ds c Pp h lb nd => ?_⟩
    obtain ⟨stock, deep, rfl, s1, s2, d1, d2, rfl, rfl⟩ := h
    have hc : oneC (n + 1) = 60 + 2 * (1 + 3 * oneC n) := rfl
    have ha : amtC 3 = 42 := rfl
    rw [hc] at lb ⊢
    have amt : ∀ {Γ : Gm} {E : XK} (k : Nat), k ≤ 2 → Γ[0]? = some (some (.ref p)) → EvT K p q (tCall (spT K (R_amount 3)) [] E (tCons (tVar 0) (tCons (tC (.int (k : Int))) tNil))) Γ 42 (fun d => ∃ e : Sm, d = smD e ∧ e.dep ≤ k) := fun k hk g0 => evt_call0 (eva_cons (ev_var g0) (eva_cons ev_int eva_nil)) rfl ⟨k, rfl, by omega, rfl, rfl⟩
    have cellp : ∀ {Γ : Gm} {E : XK}, Γ[0]? = some (some (.ref p)) → Γ[1]? = some (some (.int (stock : Int))) → EvT K p q (tCall (spT K R_pick) [] E (tCons (tVar 0) (tCons (tVar 1) tNil))) Γ 1 (fun d => ∃ i : Nat, i < stock ∧ d = .int (i : Int)) := fun g0 g1 => ev_pick g0 (ev_var g1) s1 (by omega)
    walk_at "nt"
    refine qt_seq (qt_set (c := 1) (ev_pick (m := if deep > 0 then 14 else 9) rfl ?_ (by split <;> decide) (by split <;> decide)) (by omega) fun d hd2 => ?_)
    · refine ev_if (b := decide ((0 : Int) < deep)) (eb_test (ev_op (ev_var rfl) ev_int rd_gt)) (fun c => ?_) fun c => ?_
      · have c := of_decide_eq_true c
        rw [if_pos (by omega)]; exact ev_int
      · have c := of_decide_eq_false c
        rw [if_neg (by omega)]; exact ev_int
    obtain ⟨i, hi, rfl⟩ := hd2
    walk_at "nt"
    let PR : D → Prop := fun d => ∃ z : Sp', d = spD' z ∧ spOk stock z ∧ spDep z ≤ deep ∧ spSize z ≤ szO (n + 1)
    have sz1 : 1 ≤ szO (n + 1) := by show 1 ≤ 1 + 6 * szO n; omega
    refine qt_seq (qt_if (eb_ltI rfl) (fun c => ?_) fun c0 => qt_next ?_)
    · refine qt_ret (c := 2) (P := PR) ?_ (by omega) fun d h => ⟨h, by omega⟩
      refine evt_le (evt_tup (evta_cons (by walk_at "nl") (evt_of ev_str rfl) (evta_cons (by walk_at "nl") (ev_abx (by walk_at "nl") rfl) (evta_cons (by walk_at "nl") (cellp rfl rfl) evta_nil))) fun ds h => ?_) (by decide) fun d h => ?_
      · obtain ⟨_, _, rfl, _, _, _, rfl, _, _, _, rfl, _, rfl⟩ := h; exact (by decide : 3 ≤ 100000)
      · obtain ⟨_, ⟨_, _, rfl, rfl, _, _, rfl, ⟨z, rfl⟩, _, _, rfl, ⟨k, hk, rfl⟩, rfl⟩, rfl⟩ := h
        exact ⟨.read z k, rfl, hk, Nat.zero_le _, sz1⟩
    refine qt_seq (qt_if (eb_ltI rfl) (fun c => ?_) fun c1 => qt_next ?_)
    · refine qt_ret (c := 43) (P := PR) ?_ (by omega) fun d h => ⟨h, by omega⟩
      refine evt_le (evt_tup (evta_cons (by walk_at "nl") (evt_of ev_str rfl) (evta_cons (by walk_at "nl") (cellp rfl rfl) (evta_cons (by walk_at "nl") (amt 1 (by decide) rfl) evta_nil))) fun ds h => ?_) (by decide) fun d h => ?_
      · obtain ⟨_, _, rfl, _, _, _, rfl, _, _, _, rfl, _, rfl⟩ := h; exact (by decide : 3 ≤ 100000)
      · obtain ⟨_, ⟨_, _, rfl, rfl, _, _, rfl, ⟨k, hk, rfl⟩, _, _, rfl, ⟨e, rfl, de⟩, rfl⟩, rfl⟩ := h
        exact ⟨.write k e, rfl, ⟨hk, by omega⟩, Nat.zero_le _, sz1⟩
    refine qt_seq (qt_if (eb_eqI rfl) (fun c => ?_) fun c2 => qt_next ?_)
    · refine qt_ret (c := 42) (P := PR) ?_ (by omega) fun d h => ⟨h, by omega⟩
      refine evt_le (evt_tup (evta_cons (by walk_at "nl") (evt_of ev_str rfl) (evta_cons (by walk_at "nl") (amt 2 (by decide) rfl) evta_nil)) fun ds h => ?_) (by decide) fun d h => ?_
      · obtain ⟨_, _, rfl, _, _, _, rfl, _, rfl⟩ := h; exact (by decide : 2 ≤ 100000)
      · obtain ⟨_, ⟨_, _, rfl, rfl, _, _, rfl, ⟨e, rfl, de⟩, rfl⟩, rfl⟩ := h
        exact ⟨.tell e, rfl, (by show e.dep ≤ 3; omega), Nat.zero_le _, sz1⟩
    refine qt_seq (qt_if (eb_eqI rfl) (fun c => ?_) fun c3 => qt_next ?_)
    · refine qt_ret (c := 43) (P := PR) ?_ (by omega) fun d h => ⟨h, by omega⟩
      refine evt_le (evt_tup (evta_cons (by walk_at "nl") (evt_of ev_str rfl) (evta_cons (by walk_at "nl") (ev_abx (by walk_at "nl") rfl) (evta_cons (by walk_at "nl") (amt 1 (by decide) rfl) evta_nil))) fun ds h => ?_) (by decide) fun d h => ?_
      · obtain ⟨_, _, rfl, _, _, _, rfl, _, _, _, rfl, _, rfl⟩ := h; exact (by decide : 3 ≤ 100000)
      · obtain ⟨_, ⟨_, _, rfl, rfl, _, _, rfl, ⟨z, rfl⟩, _, _, rfl, ⟨e, rfl, de⟩, rfl⟩, rfl⟩ := h
        exact ⟨.letS z e, rfl, (by show e.dep ≤ 3; omega), Nat.zero_le _, sz1⟩
    refine qt_seq (qt_if (eb_eqI rfl) (fun c => ?_) fun c4 => qt_next ?_)
    · refine qt_ret (c := 1) (P := PR) ?_ (by omega) fun d h => ⟨h, by omega⟩
      refine evt_ixL (c := 0) (c' := 1) (A := fun ds => ds = [.tup [.str "out"], .tup [.str "retry"]]) (by walk_at "nl") (evta_of (eva_cons (ev_tup (eva_cons ev_str eva_nil) (sz5 (Nat.le_of_ble_eq_true rfl))) (eva_cons (ev_tup (eva_cons ev_str eva_nil) (sz5 (Nat.le_of_ble_eq_true rfl))) eva_nil)) rfl) (fun ds h => by rw [h]; exact (by decide : 2 ≤ 100000)) (ev_pick (m := 2) rfl ev_int (by decide) (by decide)) fun ds d2 h1 h2 => ?_
      subst h1
      obtain ⟨j, hj, rfl⟩ := h2
      match j, hj with
      | 0, _ => exact ⟨0, _, rfl, rfl, .out, rfl, trivial, Nat.zero_le _, sz1⟩
      | 1, _ => exact ⟨1, _, rfl, rfl, .retry, rfl, trivial, Nat.zero_le _, sz1⟩
    have c0 := of_decide_eq_false c0
    have c1 := of_decide_eq_false c1
    have c2 := of_decide_eq_false c2
    have c3 := of_decide_eq_false c3
    have c4 := of_decide_eq_false c4
    have hdp : 0 < deep := by
      refine Nat.pos_of_ne_zero fun z => ?_
      rw [if_neg (by omega)] at hi
      omega
    refine qt_seq (qt_set (c := 0) (evt_of (d := .int ((3 - deep : Nat) : Int)) ((ev_op ev_int (ev_var rfl) rd_int).eq (by congr 1; omega)) rfl) (by omega) fun d h => ?_)
    subst h
    walk_at "nt"
    have call : ∀ {Γ : Gm} {E : XK}, Γ[0]? = some (some (.ref p)) → Γ[1]? = some (some (.int (stock : Int))) → Γ[2]? = some (some (.int (deep : Int))) → Γ[4]? = some (some (.int ((3 - deep : Nat) : Int))) → EvT K p q (tCall (spT K (R_steps n)) [] E (tCons (tVar 0) (tCons (tVar 1) (tCons (tOp (rI0 fun i j => .int (i - j)) (tVar 2) (tC (.int 1))) (tCons (tVar 4) tNil))))) Γ (1 + 3 * oneC n) (fun d => ∃ z : Pg, d = pgD z ∧ pgOk stock z ∧ pgDep z ≤ deep - 1 ∧ pgSize z ≤ 3 * szO n) := fun g0 g1 g2 g4 =>
      evt_call0 (ds := [.int (stock : Int), .int ((deep - 1 : Nat) : Int), .int ((3 - deep : Nat) : Int)]) (eva_cons (ev_var g0) (eva_cons (ev_var g1) (eva_cons ((ev_op (ev_var g2) ev_int rd_int).eq (by congr 1; omega)) (eva_cons (ev_var g4) eva_nil)))) rfl ⟨stock, deep - 1, 3 - deep, rfl, s1, s2, by omega, by omega, by omega, rfl, rfl⟩
    refine qt_seq (qt_set (call rfl rfl rfl rfl) (by omega) fun d h => ?_)
    obtain ⟨z1, rfl, a1, a2, a3⟩ := h
    walk_at "nt"
    refine qt_seq (qt_set (call rfl rfl rfl rfl) (by omega) fun d h => ?_)
    obtain ⟨z2, rfl, b1, b2, b3⟩ := h
    walk_at "nt"
    have szn : szO (n + 1) = 1 + 6 * szO n := rfl
    refine qt_seq (qt_if (eb_ltI rfl) (fun c => ?_) fun c5 => qt_next ?_)
    · refine qt_ret (c := 42) (P := PR) ?_ (by omega) fun d h => ⟨h, by omega⟩
      refine evt_le (evt_tup (evta_cons (by walk_at "nl") (evt_of ev_str rfl) (evta_cons (by walk_at "nl") (amt 1 (by decide) rfl) (evta_cons (by walk_at "nl") (evt_of (ev_var rfl) nl_pg) (evta_cons (by walk_at "nl") (evt_of (ev_var rfl) nl_pg) evta_nil)))) fun ds h => ?_) (by decide) fun d h => ?_
      · obtain ⟨_, _, rfl, _, _, _, rfl, _, _, _, rfl, _, _, _, rfl, _, rfl⟩ := h; exact (by decide : 4 ≤ 100000)
      · obtain ⟨_, ⟨_, _, rfl, rfl, _, _, rfl, ⟨e, rfl, de⟩, _, _, rfl, rfl, _, _, rfl, rfl, rfl⟩, rfl⟩ := h
        exact ⟨.ifS e z1 z2, rfl, ⟨by omega, a1, b1⟩, by simp only [spDep]; omega, by simp only [spSize]; omega⟩
    · have m1 : ((i : Int).fmod 2) = 0 ∨ ((i : Int).fmod 2) = 1 := by
        have := fmod_lo (i := (i : Int)) (m := 2) (by decide)
        have := fmod_hi (i := (i : Int)) (m := 2) (by decide)
        omega
      refine qt_ret (c := 0) (P := PR) ?_ (by omega) fun d h => ⟨h, by omega⟩
      rcases m1 with m1 | m1
      · refine evt_le (evt_of (d := .tup [.str "inner", pgD z1, pgD z2]) (ev_tup (eva_cons (ev_op (d2 := .int 0) (ev_lst (eva_cons ev_str (eva_cons ev_str eva_nil)) (sz5 (Nat.le_of_ble_eq_true rfl))) ((ev_op (ev_var rfl) ev_int (rd_I (c := fun _ j => j ≠ 0) (by decide))).eq (by rw [m1])) (rd_ixL' (by decide) rfl)) (eva_cons (ev_var rfl) (eva_cons (ev_var rfl) eva_nil))) (sz5 (Nat.le_of_ble_eq_true rfl))) (nl_sp (z := .inner z1 z2))) (Nat.le_refl _) fun d h => ?_
        subst h
        exact ⟨.inner z1 z2, rfl, ⟨a1, b1⟩, by simp only [spDep]; omega, by simp only [spSize]; omega⟩
      · refine evt_le (evt_of (d := .tup [.str "either", pgD z1, pgD z2]) (ev_tup (eva_cons (ev_op (d2 := .int 1) (ev_lst (eva_cons ev_str (eva_cons ev_str eva_nil)) (sz5 (Nat.le_of_ble_eq_true rfl))) ((ev_op (ev_var rfl) ev_int (rd_I (c := fun _ j => j ≠ 0) (by decide))).eq (by rw [m1])) (rd_ixL' (by decide) rfl)) (eva_cons (ev_var rfl) (eva_cons (ev_var rfl) eva_nil))) (sz5 (Nat.le_of_ble_eq_true rfl))) (nl_sp (z := .either z1 z2))) (Nat.le_refl _) fun d h => ?_
        subst h
        exact ⟨.either z1 z2, rfl, ⟨a1, b1⟩, by simp only [spDep]; omega, by simp only [spSize]; omega⟩
end
end Wk
set_option Elab.async false
set_option linter.all false
set_option maxRecDepth 100000
set_option maxHeartbeats 4000000
/-! pacts that are picked -/
namespace Wk
open PySem PySem.Spec PyProof.Rows L2
section
variable {P : Program} {w : World} {K : PySem.W.Frag} {mg : Str → Option Value} {base : Heap}
local macro_rules | `(tactic| walk_at "ev") => `(tactic| first
  | exact ev_int | exact ev_str | exact ev_var rfl | exact ev_pt ev_pt0
  | (refine ev_tup ?_ (sz5 (Nat.le_of_ble_eq_true rfl)); walk_at "eva"))
local macro_rules | `(tactic| walk_at "eva") => `(tactic| first | exact eva_nil | (refine eva_cons ?_ ?_; walk_at "ev"; walk_at "eva"))
local macro_rules | `(tactic| walk_at "nt") => `(tactic| refine qt_nf (by simp only [List.map_cons, List.map_nil, List.cons_append, List.nil_append, List.length_cons, List.length_nil, List.replicate_succ, List.replicate_zero, List.set_cons_succ, List.set_cons_zero, Nat.reduceAdd, Nat.reduceSub, N__law_pact]; exact rfl) ?_)
local macro_rules | `(tactic| walk_at "nl") => `(tactic| exact nlG_of (by simp [nlGb, nl, nlL, nl_sm, nl_pg]))
def R_pact (ds : List D) (c : Nat) (Q : D → Prop) : Prop := ∃ stock : Nat, ds = [.int (stock : Int)] ∧ 1 ≤ stock ∧ stock ≤ 1000 ∧ c = 10000 ∧ Q = fun d => ∃ z : Pg, d = pgD z ∧ pgOk stock z ∧ pgDep z ≤ 3 ∧ pgSize z ≤ 10000
theorem qt_pg {Γ : Gm} {p q : Addr} {te : TE} {b b0 stock : Nat} {nx : Gm → Nat → Prop} (z : Pg) (h : Ev K te Γ (pgD z)) (ho : pgOk stock z) (hd : pgDep z ≤ 3) (hs : pgSize z ≤ 10000) (hb : b0 ≤ b) :
    QT K p q (tRet te) Γ b nx (fun d b' => (∃ z : Pg, d = pgD z ∧ pgOk stock z ∧ pgDep z ≤ 3 ∧ pgSize z ≤ 10000) ∧ b0 ≤ b') :=
  qt_ret (evt_of h nl_pg) (Nat.zero_le _) fun d e => ⟨⟨z, e, ho, hd, hs⟩, by omega⟩
theorem ok_pact (T : Txt K w mg) : FnOk P w K mg base CX0 14 T.d__law_pact.f T.d__law_pact.fd ["_law_tap_here", "_law_stock"] (spT K R_pact) := by
  have G__law_pick := ok_pick (P := P) (base := base) T
  have G__law_number := ok_number (P := P) (base := base) T
  have G__law_steps := ok_steps (P := P) (base := base) T (ok_one T 3)
  refine fn_tap T.d__law_pact.F sc__law_pact (fun ds c Q h => by obtain ⟨_, rfl, _⟩ := h; rfl) fun cdv A outer s H E hr => ?_
  refine ⟨_, (pss_cons (ps_par (i := 2) (j := 3) rfl sc__law_pact.nd rfl rfl (by decide) rfl rfl (pa_cons (pe_call G__law_pick (hr.mono (by first | decide | omega)) rfl T.d__law_pick.m T.d__law_pick.kp (b__law_pick T.d__law_pick.F) .nil pass0 (pa_cons (pv 0) (pa_cons (pv 1) pa_nil))) (pa_cons (pe_call G__law_pick (hr.mono (by first | decide | omega)) rfl T.d__law_pick.m T.d__law_pick.kp (b__law_pick T.d__law_pick.F) .nil pass0 (pa_cons (pv 0) (pa_cons (pv 1) pa_nil))) pa_nil)) (by rfl))
    (pss_cons (ps_set (i := 4) sc__law_pact.nd rfl (Or.inl rfl) (pe_call G__law_pick (hr.mono (by first | decide | omega)) rfl T.d__law_pick.m T.d__law_pick.kp (b__law_pick T.d__law_pick.F) .nil pass0 (pa_cons (pv 0) (pa_cons pe_int pa_nil))))
    (pss_cons (ps_if (pt_cmpR op_eq (pv 4) pe_int (nomark _)) (pss_one (ps_ret (pe_tup (pa_cons (pe_tup (pa_cons pe_str (pa_cons pe_str (pa_cons (pv 2) pa_nil)))) (pa_cons (pe_tup (pa_cons pe_str (pa_cons (pv 2) (pa_cons (pe_tup (pa_cons pe_str (pa_cons (pe_tup (pa_cons pe_str (pa_cons pe_str pa_nil))) (pa_cons (pe_tup (pa_cons pe_str (pa_cons pe_int pa_nil))) pa_nil)))) pa_nil)))) (pa_cons (pe_tup (pa_cons pe_str (pa_cons (pe_tup (pa_cons pe_str (pa_cons pe_str pa_nil))) pa_nil))) pa_nil)))))) pss_nil)
    (pss_cons (ps_if (pt_cmpR op_eq (pv 4) pe_int (nomark _)) (pss_one (ps_ret (pe_tup (pa_cons (pe_tup (pa_cons pe_str (pa_cons pe_str (pa_cons (pv 2) pa_nil)))) (pa_cons (pe_tup (pa_cons pe_str (pa_cons pe_str (pa_cons (pv 3) pa_nil)))) (pa_cons (pe_tup (pa_cons pe_str (pa_cons (pv 3) (pa_cons (pe_tup (pa_cons pe_str (pa_cons (pe_tup (pa_cons pe_str (pa_cons pe_str pa_nil))) (pa_cons (pe_tup (pa_cons pe_str (pa_cons pe_int pa_nil))) pa_nil)))) pa_nil)))) pa_nil)))))) pss_nil)
    (pss_cons (ps_if (pt_cmpR op_eq (pv 4) pe_int (nomark _)) (pss_one (ps_ret (pe_tup (pa_cons (pe_tup (pa_cons pe_str (pa_cons pe_str (pa_cons (pv 2) pa_nil)))) (pa_cons (pe_tup (pa_cons pe_str (pa_cons pe_str (pa_cons (pv 3) pa_nil)))) (pa_cons (pe_tup (pa_cons pe_str (pa_cons (pe_tup (pa_cons pe_str (pa_cons (pe_tup (pa_cons pe_str (pa_cons pe_str pa_nil))) (pa_cons (pe_tup (pa_cons pe_str (pa_cons pe_str pa_nil))) pa_nil)))) pa_nil))) pa_nil)))))) pss_nil)
    (pss_cons (ps_if (pt_cmpR op_eq (pv 4) pe_int (nomark _)) (pss_one (ps_ret (pe_tup (pa_cons (pe_tup (pa_cons pe_str (pa_cons (pv 2) (pa_cons (pe_tup (pa_cons pe_str (pa_cons (pe_call G__law_number (hr.mono (by first | decide | omega)) rfl T.d__law_number.m T.d__law_number.kp (b__law_number T.d__law_number.F) .nil pass0 (pa_cons (pv 0) pa_nil)) pa_nil))) pa_nil)))) (pa_cons (pe_tup (pa_cons pe_str (pa_cons (pv 3) (pa_cons (pe_tup (pa_cons pe_str (pa_cons pe_int pa_nil))) pa_nil)))) pa_nil))))) pss_nil)
    (pss_cons (ps_if (pt_cmpR op_eq (pv 4) pe_int (nomark _)) (pss_cons (ps_set (i := 5) sc__law_pact.nd rfl (Or.inl rfl) (pe_tup (pa_cons (pe_tup (pa_cons pe_str (pa_cons (pe_tup (pa_cons pe_str (pa_cons (pe_tup (pa_cons pe_str (pa_cons pe_str pa_nil))) (pa_cons (pe_tup (pa_cons pe_str (pa_cons (pe_op op_add pe_int (pe_call G__law_pick (hr.mono (by first | decide | omega)) rfl T.d__law_pick.m T.d__law_pick.kp (b__law_pick T.d__law_pick.F) .nil pass0 (pa_cons (pv 0) (pa_cons pe_int pa_nil)))) pa_nil))) pa_nil)))) (pa_cons (pe_tup (pa_cons (pe_tup (pa_cons pe_str pa_nil)) pa_nil)) (pa_cons pe_pt0 pa_nil))))) pa_nil)))
    (pss_one (ps_ret (pe_op op_catA (pe_op op_catA (pe_tup (pa_cons (pe_tup (pa_cons pe_str (pa_cons pe_str (pa_cons (pv 2) pa_nil)))) pa_nil)) (pv 5)) (pe_tup (pa_cons (pe_tup (pa_cons pe_str (pa_cons (pv 3) (pa_cons (pe_tup (pa_cons pe_str (pa_cons (pe_tup (pa_cons pe_str (pa_cons pe_str pa_nil))) (pa_cons (pe_tup (pa_cons pe_str (pa_cons pe_int pa_nil))) pa_nil)))) pa_nil)))) pa_nil)))))) pss_nil)
    (pss_cons (ps_if (pt_cmpR op_eq (pv 4) pe_int (nomark _)) (pss_cons (ps_set (i := 6) sc__law_pact.nd rfl (Or.inl rfl) (pe_tup (pa_cons (pe_tup (pa_cons pe_str (pa_cons pe_str (pa_cons (pv 2) pa_nil)))) (pa_cons (pe_tup (pa_cons pe_str (pa_cons (pv 3) (pa_cons (pe_tup (pa_cons pe_str (pa_cons pe_int pa_nil))) pa_nil)))) (pa_cons (pe_tup (pa_cons pe_str pa_nil)) pa_nil)))))
    (pss_one (ps_ret (pe_tup (pa_cons (pe_tup (pa_cons pe_str (pa_cons (pv 6) (pa_cons (pe_tup (pa_cons (pe_tup (pa_cons pe_str (pa_cons pe_str (pa_cons (pv 3) pa_nil)))) (pa_cons (pe_tup (pa_cons pe_str (pa_cons (pv 2) (pa_cons (pe_tup (pa_cons pe_str (pa_cons (pe_tup (pa_cons pe_str (pa_cons pe_str pa_nil))) (pa_cons (pe_tup (pa_cons pe_str (pa_cons pe_int pa_nil))) pa_nil)))) pa_nil)))) pa_nil))) pa_nil)))) pa_nil))))) pss_nil)
    (pss_cons (ps_if (pt_cmpR op_eq (pv 4) pe_int (nomark _)) (pss_cons (ps_set (i := 6) sc__law_pact.nd rfl (Or.inl rfl) (pe_tup (pa_cons (pe_tup (pa_cons pe_str (pa_cons (pv 3) (pa_cons (pe_tup (pa_cons pe_str (pa_cons pe_int pa_nil))) pa_nil)))) (pa_cons (pe_tup (pa_cons pe_str (pa_cons (pe_tup (pa_cons pe_str (pa_cons pe_int pa_nil))) pa_nil))) (pa_cons (pe_tup (pa_cons pe_str (pa_cons pe_str (pa_cons (pv 2) pa_nil)))) pa_nil)))))
    (pss_cons (ps_set (i := 6) sc__law_pact.nd rfl (Or.inl rfl) (pe_op op_catA (pv 6) (pe_tup (pa_cons (pe_tup (pa_cons pe_str (pa_cons (pe_tup (pa_cons pe_str (pa_cons pe_str pa_nil))) (pa_cons (pe_tup (pa_cons (pe_tup (pa_cons pe_str (pa_cons (pv 2) (pa_cons (pe_tup (pa_cons pe_str (pa_cons pe_int pa_nil))) pa_nil)))) pa_nil)) (pa_cons (pe_tup (pa_cons (pe_tup (pa_cons pe_str pa_nil)) pa_nil)) pa_nil))))) pa_nil))))
    (pss_one (ps_ret (pe_tup (pa_cons (pe_tup (pa_cons pe_str (pa_cons (pv 6) (pa_cons (pe_tup (pa_cons (pe_tup (pa_cons pe_str (pa_cons (pv 3) (pa_cons (pe_tup (pa_cons pe_str (pa_cons pe_int pa_nil))) pa_nil)))) pa_nil)) pa_nil)))) (pa_cons (pe_tup (pa_cons pe_str (pa_cons (pe_tup (pa_cons pe_str (pa_cons pe_str pa_nil))) pa_nil))) pa_nil))))))) pss_nil)
    (pss_one (ps_ret (pe_ifExp (pt_cmpR op_eq (pv 4) pe_int (nomark _)) (pe_call G__law_steps (hr.mono (by first | decide | omega)) rfl T.d__law_steps.m T.d__law_steps.kp (b__law_steps T.d__law_steps.F) .nil pass0 (pa_cons (pv 0) (pa_cons (pv 1) (pa_cons pe_int (pa_cons pe_int pa_nil))))) (pe_call G__law_steps (hr.mono (by first | decide | omega)) rfl T.d__law_steps.m T.d__law_steps.kp (b__law_steps T.d__law_steps.F) .nil pass0 (pa_cons (pv 0) (pa_cons (pv 1) (pa_cons pe_int (pa_cons pe_int pa_nil))))))))))))))))), fun p q b ds c Pp h lb nd => ?_⟩
  obtain ⟨stock, rfl, s1, s2, rfl, rfl⟩ := h
  have cellp : ∀ {Γ : Gm} {E : XK}, Γ[0]? = some (some (.ref p)) → Γ[1]? = some (some (.int (stock : Int))) → EvT K p q (tCall (spT K R_pick) [] E (tCons (tVar 0) (tCons (tVar 1) tNil))) Γ 1 (fun d => ∃ i : Nat, i < stock ∧ d = .int (i : Int)) := fun g0 g1 => ev_pick g0 (ev_var g1) s1 (by omega)
  walk_at "nt"
  refine qt_seq (qt_par (c := 2) (P := fun d => ∃ i : Nat, i < stock ∧ d = .int (i : Int)) (P' := fun d => ∃ i : Nat, i < stock ∧ d = .int (i : Int)) ?_ (by omega) fun d1 d2 h1 h2 => ?_)
  · intro b σ H lb sa tp Q k
    refine evta_cons (by walk_at "nl") (cellp rfl rfl) (evta_cons (by walk_at "nl") (cellp rfl rfl) evta_nil) b σ H lb sa tp Q fun vs H' ds h => ?_
    obtain ⟨d1, _, rfl, h1, d2, _, rfl, h2, rfl⟩ := h
    exact k vs H' _ ⟨d1, d2, rfl, h1, h2⟩
  obtain ⟨o1, ho1, rfl⟩ := h1
  obtain ⟨o2, ho2, rfl⟩ := h2
  walk_at "nt"
  refine qt_seq (qt_set (c := 1) (ev_pick (m := 9) rfl ev_int (by decide) (by decide)) (by omega) fun d h => ?_)
  obtain ⟨i, hi, rfl⟩ := h
  walk_at "nt"
  refine qt_seq (qt_if (eb_eqI rfl) (fun c => ?_) fun _ => qt_next ?_)
  · refine qt_pg [.read .a o1, .write o1 (.plus (.slot .a) (.num 1)), .tell (.slot .a)] ?_ ⟨ho1, ⟨ho1, by decide⟩, (Nat.le_of_ble_eq_true rfl), trivial⟩ (Nat.le_of_ble_eq_true rfl) (Nat.le_of_ble_eq_true rfl) (by omega)
    show Ev K _ _ (.tup [.tup [.str "read", .str "a", .int (o1 : Int)], .tup [.str "write", .int (o1 : Int), .tup [.str "plus", .tup [.str "slot", .str "a"], .tup [.str "num", .int 1]]], .tup [.str "tell", .tup [.str "slot", .str "a"]]])
    walk_at "ev"
  refine qt_seq (qt_if (eb_eqI rfl) (fun c => ?_) fun _ => qt_next ?_)
  · refine qt_pg [.read .a o1, .read .b o2, .write o2 (.plus (.slot .a) (.num 1))] ?_ ⟨ho1, ho2, ⟨ho2, by decide⟩, trivial⟩ (Nat.le_of_ble_eq_true rfl) (Nat.le_of_ble_eq_true rfl) (by omega)
    show Ev K _ _ (.tup [.tup [.str "read", .str "a", .int (o1 : Int)], .tup [.str "read", .str "b", .int (o2 : Int)], .tup [.str "write", .int (o2 : Int), .tup [.str "plus", .tup [.str "slot", .str "a"], .tup [.str "num", .int 1]]]])
    walk_at "ev"
  refine qt_seq (qt_if (eb_eqI rfl) (fun c => ?_) fun _ => qt_next ?_)
  · refine qt_pg [.read .a o1, .read .b o2, .tell (.minus (.slot .a) (.slot .b))] ?_ ⟨ho1, ho2, (Nat.le_of_ble_eq_true rfl), trivial⟩ (Nat.le_of_ble_eq_true rfl) (Nat.le_of_ble_eq_true rfl) (by omega)
    show Ev K _ _ (.tup [.tup [.str "read", .str "a", .int (o1 : Int)], .tup [.str "read", .str "b", .int (o2 : Int)], .tup [.str "tell", .tup [.str "minus", .tup [.str "slot", .str "a"], .tup [.str "slot", .str "b"]]]])
    walk_at "ev"
  refine qt_seq (qt_if (eb_eqI rfl) (fun c => ?_) fun _ => qt_next ?_)
  · refine qt_ret (c := 4) (P := fun d => ∃ j : Int, d = pgD [.write o1 (.num j), .write o2 (.num 7)]) ?_ (by omega) fun d ⟨j, e⟩ => ⟨⟨_, e, ⟨⟨ho1, (by decide : 0 ≤ 3)⟩, ⟨ho2, (by decide : 0 ≤ 3)⟩, trivial⟩, (Nat.le_of_ble_eq_true rfl), (Nat.le_of_ble_eq_true rfl)⟩, by omega⟩
    refine evt_le (evt_tup (evta_cons (by walk_at "nl") (evt_tup (evta_cons (by walk_at "nl") (evt_of ev_str rfl) (evta_cons (by walk_at "nl") (evt_of (ev_var rfl) rfl) (evta_cons (by walk_at "nl") (evt_tup (evta_cons (by walk_at "nl") (evt_of ev_str rfl) (evta_cons (by walk_at "nl") (evt_call0 (R := R_number) (eva_cons (ev_var rfl) eva_nil) rfl ⟨rfl, rfl, rfl⟩) evta_nil)) ?_) evta_nil))) ?_) (evta_cons (by walk_at "nl") (evt_of (d := .tup [.str "write", .int (o2 : Int), .tup [.str "num", .int 7]]) (by walk_at "ev") rfl) evta_nil)) ?_) (by decide) fun d h => ?_
    · rintro ds ⟨_, _, rfl, _, _, _, rfl, _, rfl⟩; exact (by decide : 2 ≤ 100000)
    · rintro ds ⟨_, _, rfl, _, _, _, rfl, _, _, _, rfl, _, rfl⟩; exact (by decide : 3 ≤ 100000)
    · rintro ds ⟨_, _, rfl, _, _, _, rfl, _, rfl⟩; exact (by decide : 2 ≤ 100000)
    · obtain ⟨_, ⟨_, _, rfl, ⟨_, ⟨_, _, rfl, rfl, _, _, rfl, rfl, _, _, rfl, ⟨_, ⟨_, _, rfl, rfl, _, _, rfl, ⟨j, rfl⟩, rfl⟩, rfl⟩, rfl⟩, rfl⟩, _, _, rfl, rfl, rfl⟩, rfl⟩ := h
      exact ⟨j, rfl⟩
  refine qt_seq (qt_if (eb_eqI rfl) (fun c => ?_) fun _ => qt_next ?_)
  · refine qt_seq (qt_set (c := 1) (P := fun d => ∃ j : Int, d = pgD [.ifS (.less (.slot .a) (.num j)) [.retry] []]) ?_ (by omega) fun d h => ?_)
    · refine evt_le (evt_tup (evta_cons (by walk_at "nl") (evt_tup (evta_cons (by walk_at "nl") (evt_of ev_str rfl) (evta_cons (by walk_at "nl") (evt_tup (evta_cons (by walk_at "nl") (evt_of ev_str rfl) (evta_cons (by walk_at "nl") (evt_of (d := .tup [.str "slot", .str "a"]) (by walk_at "ev") rfl) (evta_cons (by walk_at "nl") (evt_tup (evta_cons (by walk_at "nl") (evt_of ev_str rfl) (evta_cons (by walk_at "nl") (evt_op (P2 := fun d => ∃ i : Int, d = .int i) (by walk_at "nl") (evt_of ev_int rfl) (ev_pick (m := 3) rfl ev_int (by decide) (by decide)) ?_) evta_nil)) ?_) evta_nil))) ?_) (evta_cons (by walk_at "nl") (evt_of (d := .tup [.tup [.str "retry"]]) (by walk_at "ev") rfl) (evta_cons (by walk_at "nl") (evt_of (d := .tup []) (ev_pt ev_pt0) rfl) evta_nil)))) ?_) evta_nil) ?_) (by decide) fun d h => ?_
      · rintro d1 d2 rfl ⟨i, _, rfl⟩; exact ⟨_, ⟨_, rfl⟩, rfl, rd_int⟩
      · rintro ds ⟨_, _, rfl, _, _, _, rfl, _, rfl⟩; exact (by decide : 2 ≤ 100000)
      · rintro ds ⟨_, _, rfl, _, _, _, rfl, _, _, _, rfl, _, rfl⟩; exact (by decide : 3 ≤ 100000)
      · rintro ds ⟨_, _, rfl, _, _, _, rfl, _, _, _, rfl, _, _, _, rfl, _, rfl⟩; exact (by decide : 4 ≤ 100000)
      · rintro ds ⟨_, _, rfl, _, rfl⟩; exact (by decide : 1 ≤ 100000)
      · obtain ⟨_, ⟨_, _, rfl, ⟨_, ⟨_, _, rfl, rfl, _, _, rfl, ⟨_, ⟨_, _, rfl, rfl, _, _, rfl, rfl, _, _, rfl, ⟨_, ⟨_, _, rfl, rfl, _, _, rfl, ⟨j, rfl⟩, rfl⟩, rfl⟩, rfl⟩, rfl⟩, _, _, rfl, rfl, _, _, rfl, rfl, rfl⟩, rfl⟩, rfl⟩, rfl⟩ := h
        exact ⟨j, rfl⟩
    · obtain ⟨j, rfl⟩ := h
      walk_at "nt"
      refine qt_pg [.read .a o1, .ifS (.less (.slot .a) (.num j)) [.retry] [], .write o2 (.minus (.slot .a) (.num 1))] ?_ ⟨ho1, ⟨(by decide : 1 ≤ 3), ⟨trivial, trivial⟩, trivial⟩, ⟨ho2, (by decide : 1 ≤ 3)⟩, trivial⟩ (Nat.le_of_ble_eq_true rfl) (Nat.le_of_ble_eq_true rfl) (by omega)
      refine ev_op (d1 := .tup [.tup [.str "read", .str "a", .int (o1 : Int)], spD' (.ifS (.less (.slot .a) (.num j)) [.retry] [])]) (d2 := .tup [.tup [.str "write", .int (o2 : Int), .tup [.str "minus", .tup [.str "slot", .str "a"], .tup [.str "num", .int 1]]]]) (ev_op (d1 := .tup [.tup [.str "read", .str "a", .int (o1 : Int)]]) (d2 := pgD [.ifS (.less (.slot .a) (.num j)) [.retry] []]) (by walk_at "ev") (ev_var rfl) (rd_cat (sz5 (Nat.le_of_ble_eq_true rfl)))) (by walk_at "ev") (rd_cat (sz5 (Nat.le_of_ble_eq_true rfl)))
  refine qt_seq (qt_if (eb_eqI rfl) (fun c => ?_) fun _ => qt_next ?_)
  · refine qt_seq (qt_set (c := 0) (evt_of (d := pgD [.read .a o1, .write o2 (.num 5), .out]) ?_ nl_pg) (by omega) fun d h => ?_)
    · show Ev K _ _ (.tup [.tup [.str "read", .str "a", .int (o1 : Int)], .tup [.str "write", .int (o2 : Int), .tup [.str "num", .int 5]], .tup [.str "out"]])
      walk_at "ev"
    · subst h
      walk_at "nt"
      refine qt_pg [.inner [.read .a o1, .write o2 (.num 5), .out] [.read .b o2, .write o1 (.plus (.slot .b) (.num 1))]] ?_ ⟨⟨⟨ho1, ⟨ho2, (by decide : 0 ≤ 3)⟩, trivial, trivial⟩, ⟨ho2, ⟨ho1, (by decide : 1 ≤ 3)⟩, trivial⟩⟩, trivial⟩ (Nat.le_of_ble_eq_true rfl) (Nat.le_of_ble_eq_true rfl) (by omega)
      show Ev K _ _ (.tup [.tup [.str "inner", pgD [.read .a o1, .write o2 (.num 5), .out], .tup [.tup [.str "read", .str "b", .int (o2 : Int)], .tup [.str "write", .int (o1 : Int), .tup [.str "plus", .tup [.str "slot", .str "b"], .tup [.str "num", .int 1]]]]]])
      walk_at "ev"
  refine qt_seq (qt_if (eb_eqI rfl) (fun c => ?_) fun _ => qt_next ?_)
  · refine qt_seq (qt_set (c := 0) (evt_of (d := pgD [.write o2 (.num 3), .tell (.num 4), .read .a o1]) ?_ nl_pg) (by omega) fun d h => ?_)
    · show Ev K _ _ (.tup [.tup [.str "write", .int (o2 : Int), .tup [.str "num", .int 3]], .tup [.str "tell", .tup [.str "num", .int 4]], .tup [.str "read", .str "a", .int (o1 : Int)]])
      walk_at "ev"
    · subst h
      walk_at "nt"
      refine qt_seq (qt_set (c := 0) (evt_of (d := pgD [.write o2 (.num 3), .tell (.num 4), .read .a o1, .ifS (.slot .a) [.write o1 (.num 0)] [.retry]]) ?_ nl_pg) (by omega) fun d h => ?_)
      · refine ev_op (d1 := pgD [.write o2 (.num 3), .tell (.num 4), .read .a o1]) (d2 := .tup [.tup [.str "if", .tup [.str "slot", .str "a"], .tup [.tup [.str "write", .int (o1 : Int), .tup [.str "num", .int 0]]], .tup [.tup [.str "retry"]]]]) (ev_var rfl) (by walk_at "ev") (rd_cat (sz5 (Nat.le_of_ble_eq_true rfl)))
      · subst h
        walk_at "nt"
        refine qt_pg [.either [.write o2 (.num 3), .tell (.num 4), .read .a o1, .ifS (.slot .a) [.write o1 (.num 0)] [.retry]] [.write o2 (.num 1)], .tell (.slot .a)] ?_ ⟨⟨⟨⟨ho2, (by decide : 0 ≤ 3)⟩, (by decide : 0 ≤ 3), ho1, ⟨(by decide : 0 ≤ 3), ⟨⟨ho1, (by decide : 0 ≤ 3)⟩, trivial⟩, ⟨trivial, trivial⟩⟩, trivial⟩, ⟨⟨ho2, (by decide : 0 ≤ 3)⟩, trivial⟩⟩, (by decide : 0 ≤ 3), trivial⟩ (Nat.le_of_ble_eq_true rfl) (Nat.le_of_ble_eq_true rfl) (by omega)
        show Ev K _ _ (.tup [.tup [.str "either", pgD [.write o2 (.num 3), .tell (.num 4), .read .a o1, .ifS (.slot .a) [.write o1 (.num 0)] [.retry]], .tup [.tup [.str "write", .int (o2 : Int), .tup [.str "num", .int 1]]]], .tup [.str "tell", .tup [.str "slot", .str "a"]]])
        walk_at "ev"
  have c3 : 1 + 3 * oneC 3 = 7999 := by decide
  refine qt_ret (c := 7999) (P := fun d => ∃ z : Pg, d = pgD z ∧ pgOk stock z ∧ pgDep z ≤ 3 ∧ pgSize z ≤ 10000) ?_ (by omega) fun d h => ⟨h, by omega⟩
  refine evt_if (eb_eqI rfl) (fun c => ?_) fun c => ?_
  · refine evt_le (evt_call0 (ds := [.int (stock : Int), .int ((1 : Nat) : Int), .int ((3 : Nat) : Int)]) (eva_cons (ev_var rfl) (eva_cons (ev_var rfl) (eva_cons ev_int (eva_cons ev_int eva_nil)))) rfl ⟨stock, 1, 3, rfl, s1, s2, by decide, by decide, by decide, rfl, rfl⟩) (by rw [c3]; exact Nat.le_refl _) fun d h => ?_
    obtain ⟨z, e, h1, h2, h3⟩ := h
    exact ⟨z, e, h1, by omega, Nat.le_trans h3 (by decide)⟩
  · refine evt_le (evt_call0 (ds := [.int (stock : Int), .int ((2 : Nat) : Int), .int ((1 : Nat) : Int)]) (eva_cons (ev_var rfl) (eva_cons (ev_var rfl) (eva_cons ev_int (eva_cons ev_int eva_nil)))) rfl ⟨stock, 2, 1, rfl, s1, s2, by decide, by decide, by decide, rfl, rfl⟩) (by rw [c3]; exact Nat.le_refl _) fun d h => ?_
    obtain ⟨z, e, h1, h2, h3⟩ := h
    exact ⟨z, e, h1, by omega, Nat.le_trans h3 (by decide)⟩
end
end Wk
set_option Elab.async false
set_option linter.all false
set_option maxRecDepth 100000
set_option maxHeartbeats 4000000
/-! loops that pick; a small crew -/
namespace Wk
open PySem PySem.Spec PyProof.Rows L2
theorem nlL_snoc {d : D} (nd : nl d = true) : ∀ as : List D, nlL as = true → nlL (as ++ [d]) = true
  | [], _ => by simp [nlL, nd]
  | a :: as, h => by simp only [nlL, Bool.and_eq_true, List.cons_append] at h ⊢; exact ⟨h.1, nlL_snoc nd as h.2⟩
theorem Tap.put {p q l : Addr} {b : Nat} {H : Hp} {o : HO} (t : Tap p q b H) (h1 : l ≠ p) (h2 : l ≠ q) : Tap p q b (L2.upd H l o) := by
  obtain ⟨a, r, t, xs, f1, f2, f3⟩ := t
  exact ⟨a, r, t, xs, by rw [L2.upd_ne h1.symm]; exact f1, by rw [L2.upd_ne h2.symm]; exact f2, f3⟩
theorem Tap.fresh {p q l : Addr} {b : Nat} {H : Hp} (t : Tap p q b H) (h : H l = none) : l ≠ p ∧ l ≠ q := by
  obtain ⟨a, r, t, xs, f1, f2, f3⟩ := t
  refine ⟨fun z => ?_, fun z => ?_⟩
  · subst z; rw [h] at f1; cases f1
  · subst z; rw [h] at f2; cases f2
theorem nlG.wipe {Γ : Gm} {i : Nat} (h : nlG Γ) : nlG (wipeG Γ [i]) := fun j d e => by
  unfold wipeG wipeG at e
  by_cases z : i = j
  · subst z
    by_cases hl : i < Γ.length
    · rw [List.getElem?_set_self hl] at e; cases e
    · rw [List.getElem?_eq_none (by rw [List.length_set]; omega)] at e; cases e
  · rw [List.getElem?_set_ne z] at e; exact h j d e
section
variable {K : PySem.W.Frag} {p q : Addr} {Γ : Gm} {te tx : TE} {c c' b : Nat} {P P' : D → Prop}
/-- [tx for i in range(te)] where tx picks -/
theorem lc_tap {i N : Nat} {ta : TA} {σ : L2.St} {H : Hp} (h1 : EvT K p q te Γ c P) (eta : ta = tCons te tNil) (hP : ∀ d, P d → ∃ n : Nat, n ≤ N ∧ d = .int (n : Int)) (hN : N ≤ 1000)
    (h2 : ∀ x : Int, EvT K p q tx ((wipeG Γ [i]).set i (some (.int x))) c' P') (hb : c + N * c' ≤ b) (sa : SA K H σ Γ) (g : nlG Γ) (tp : Tap p q b H) (Q : VK)
    (k : ∀ r H' vs ds (n : Nat), P (.int (n : Int)) → SameS [p] H H' → Tap p q (b - (c + N * c')) H' → H' r = some (.lst vs) → r ≠ p → r ≠ q → AtL K H' ds vs → nlL ds = true → ds.length = n → (∀ d ∈ ds, P' d) → Q (.ref r) H') :
    tLc (iRng1 ta) (gName i) tYes tx [i] σ H Q := by
  subst eta
  refine h1 b σ H (by omega) sa tp _ fun v H1 d pd nd e1 t1 a1 => ?_
  obtain ⟨n, hn, rfl⟩ := hP d pd
  rw [show v = .int (n : Int) from a1]
  refine ⟨(n : Int), rfl, by omega, by omega, fun D0 hD => ?_⟩
  rw [Int.toNat_natCast]
  have sa1 := sa.keep g (tp.keep e1)
  have nc : n * c' ≤ N * c' := Nat.mul_le_mul_right _ hn
  obtain ⟨f1, f2⟩ := t1.fresh hD
  refine lc_range (lo := 0) (n := n) (fun i H2 => SameS [p] H1 H2 ∧ Tap p q (b - (c + i * c')) H2 ∧ ∃ acc ds, H2 D0 = some (.lst acc) ∧ AtL K H2 ds acc ∧ nlL ds = true ∧ ds.length = i ∧ ∀ d ∈ ds, P' d)
    ⟨SameS.of (Same.new hD), by rw [Nat.zero_mul]; exact t1.same (Same.new hD), [], [], L2.upd_same, rfl, rfl, rfl, by simp⟩ ?_ ?_
  · rintro j H2 hj ⟨e2, t2, acc, ds, hacc, al, nds, dl, dp⟩
    rw [Int.zero_add]
    have jb : (j + 1) * c' ≤ N * c' := Nat.mul_le_mul_right _ (by omega)
    rw [Nat.succ_mul] at jb
    have k2 := (t1.keep e2)
    have sa2 : SA K H2 ((wipe σ [i]).set i (some (.int (j : Int)))) ((wipeG Γ [i]).set i (some (.int (j : Int)))) := (((sa1.keep g k2)).wipeG [i]).set rfl
    refine ⟨by rw [wipe_set (by simp), wipe_wipe], ?_⟩
    refine eb_yes _ H2 sa2 _ fun H3 e3 => iteT ?_
    refine h2 (j : Int) (b - (c + j * c')) _ H3 (by omega) (sa2.mono e3) (t2.same e3) _ fun v4 H4 d4 pd4 nd4 e4 t4 a4 => ?_
    have e2 : SameS [p] H1 H3 := e2.trans (SameS.of e3)
    have t2 := t2.same e3
    have al := AtL.mono e3 al
    have hacc4 : H4 D0 = some (.lst acc) := e4 D0 _ (by simpa using f1) (e3 _ _ hacc)
    have k5 := KeepT.lst (ys := acc ++ [v4]) hacc4
    refine ⟨acc, hacc4, by rw [AtL.len al, dl]; exact szl (by omega), ?_⟩
    have same5 : SameS [p] H1 (L2.upd H4 D0 (.lst (acc ++ [v4]))) := fun b u nb hb => by
      rw [L2.upd_ne (by rintro rfl; rw [hD] at hb; cases hb)]
      exact e4 b u nb (e2 b u nb hb)
    refine ⟨same5, ?_, acc ++ [v4], ds ++ [d4], L2.upd_same, AtL.append (AtL.keep k5 nds (AtL.keep (t2.keep e4) nds al)) (AtL.one (At.keep k5 nd4 a4)), nlL_snoc nd4 ds nds, by rw [List.length_append, dl]; rfl, ?_⟩
    · have : (j + 1) * c' = j * c' + c' := Nat.succ_mul j c'
      exact (t4.put f1 f2).le (by omega)
    · intro d hd
      rcases List.mem_append.mp hd with hd | hd
      · exact dp d hd
      · rw [List.mem_singleton.mp hd]; exact pd4
  · rintro H2 ⟨e2, t2, acc, ds, hacc, al, nds, dl, dp⟩
    exact k D0 H2 acc ds n pd (e1.trans e2) (t2.le (by omega)) hacc f1 f2 al nds dl dp
/-- tuple([tx for i in range(te)]) -/
theorem evt_tlc {i N : Nat} (g : nlG Γ) (h1 : EvT K p q te Γ c P) (hP : ∀ d, P d → ∃ n : Nat, n ≤ N ∧ d = .int (n : Int)) (hN : N ≤ 1000)
    (h2 : ∀ x : Int, EvT K p q tx ((wipeG Γ [i]).set i (some (.int x))) c' P') : EvT K p q (tCB (rTupL K) (tCons (tLc (iRng1 (tCons te tNil)) (gName i) tYes tx [i]) tNil)) Γ (c + N * c') (fun d => ∃ (ds : List D) (n : Nat), d = .tup ds ∧ ds.length = n ∧ P (.int (n : Int)) ∧ ∀ x ∈ ds, P' x) := fun b σ H lb sa tp Q k => by
  show tLc (iRng1 (tCons te tNil)) (gName i) tYes tx [i] σ H (fun x H1 => rTupL K [x] H1 Q)
  exact lc_tap h1 rfl hP hN h2 lb sa g tp _ fun r H' vs ds n pn e t hr r1 r2 al nds dl dp => ⟨r, vs, rfl, .inl ⟨SqL.of hr, fun l hl => k _ _ (.tup ds) ⟨ds, n, rfl, dl, pn, dp⟩ nds (e.trans (SameS.of (Same.new hl))) (t.same (Same.new hl)) (At.tup_new hl al)⟩⟩
/-- a body that ends by appending to the list at l -/
def BodyA (K : PySem.W.Frag) (p q l : Addr) (tb : TS) (c' : Nat) (P' : D → Prop) (G : Gm → Prop) : Prop := ∀ Γ b σ H (E : Ends) acc, G Γ → c' ≤ b → SA K H σ Γ → nlG Γ → Tap p q b H → H l = some (.lst acc) → acc.length ≤ 100000 →
  (∀ Γ' σ' H' v d, G Γ' → P' d → nl d = true → SameS [p] H H' → Tap p q (b - c') H' → SA K H' σ' Γ' → nlG Γ' → At K H' d v → E.nx σ' (L2.upd H' l (.lst (acc ++ [v])))) → tb E σ H
theorem for_tap {k N : Nat} {l : Addr} {tb : TS} {G : Gm → Prop} {σ : L2.St} {H0 H : Hp} {E : Ends} (h1 : EvT K p q te Γ c P) (hP : ∀ d, P d → ∃ n : Nat, n ≤ N ∧ d = .int (n : Int)) (hN : N ≤ 1000)
    (hG0 : G Γ) (hG : ∀ Γ x, G Γ → G (Γ.set k (some (.int x)))) (hB : BodyA K p q l tb c' P' G) (hb : c + N * c' ≤ b) (sa : SA K H σ Γ) (g : nlG Γ) (tp : Tap p q b H) (e0 : SameS [p] H0 H) (hl0 : H0 l = none) (hl : H l = some (.lst [])) (l1 : l ≠ p) (l2 : l ≠ q)
    (kk : ∀ Γ' σ' H' acc ds (n : Nat), P (.int (n : Int)) → G Γ' → SameS [p] H0 H' → Tap p q (b - (c + N * c')) H' → SA K H' σ' Γ' → nlG Γ' → H' l = some (.lst acc) → AtL K H' ds acc → nlL ds = true → ds.length = n → (∀ d ∈ ds, P' d) → E.nx σ' H') :
    tFor (iRng1 (tCons te tNil)) (gName k) tb E σ H := by
  refine h1 b _ _ (by omega) sa tp _ fun v H1 d pd nd e1 t1 a1 => ?_
  obtain ⟨m, hm, rfl⟩ := hP d pd
  rw [show v = .int (m : Int) from a1]
  have hl1 : H1 l = some (.lst []) := e1 l _ (by simpa using l1) hl
  have mc : m * c' ≤ N * c' := Nat.mul_le_mul_right _ hm
  refine ⟨(m : Int), rfl, by omega, by omega, fun i mm σ' H' => mm = m - i ∧ i ≤ m ∧ SameS [p] H0 H' ∧ ∃ (Γ' : Gm) (acc : List V) (ds : List D), SA K H' σ' Γ' ∧ nlG Γ' ∧ G Γ' ∧ Tap p q (b - (c + i * c')) H' ∧ H' l = some (.lst acc) ∧ AtL K H' ds acc ∧ nlL ds = true ∧ ds.length = i ∧ ∀ d ∈ ds, P' d, ⟨m, by simp, Nat.zero_le _, e0.trans e1, _, [], [], sa.keep g (tp.keep e1), g, hG0, by rw [Nat.zero_mul]; exact t1, hl1, rfl, rfl, rfl, by simp⟩, ?_⟩
  rintro i mm σ' H' ⟨rfl, hi, e2, Γ', acc, ds, sa2, g2, gG, t2, hacc, al, nds, dl, dp⟩
  rw [Int.toNat_natCast]
  by_cases hlt : i < m
  · refine .inr ⟨hlt, fun σ2 H2 => i + 1 ≤ m ∧ SameS [p] H0 H2 ∧ ∃ (Γ' : Gm) (acc : List V) (ds : List D), SA K H2 σ2 Γ' ∧ nlG Γ' ∧ G Γ' ∧ Tap p q (b - (c + (i + 1) * c')) H2 ∧ H2 l = some (.lst acc) ∧ AtL K H2 ds acc ∧ nlL ds = true ∧ ds.length = i + 1 ∧ ∀ d ∈ ds, P' d, fun σ2 H2 z => ⟨m - (i + 1), by omega, rfl, z⟩, fun x H3 y => ?_⟩
    obtain ⟨eH, y⟩ := y
    subst eH
    have ib : (i + 1) * c' ≤ N * c' := Nat.mul_le_mul_right _ (by omega)
    rw [Nat.succ_mul] at ib
    refine hB _ (b - (c + i * c')) _ H3 _ acc (hG Γ' (0 + (i : Int)) gG) (by omega) (sa2.set y) (g2.set rfl) t2 hacc (by rw [AtL.len al, dl]; omega) fun Γ4 σ4 H4 v4 d4 G4 pd4 nd4 e4 t4 sa4 g4 a4 => ?_
    have hacc4 : H4 l = some (.lst acc) := e4 l _ (by simpa using l1) hacc
    have k5 := KeepT.lst (ys := acc ++ [v4]) hacc4
    have same5 : SameS [p] H0 (L2.upd H4 l (.lst (acc ++ [v4]))) := fun b u nb hb => by
      rw [L2.upd_ne (by rintro rfl; rw [hl0] at hb; cases hb)]
      exact e4 b u nb (e2 b u nb hb)
    refine ⟨hlt, same5, Γ4, acc ++ [v4], ds ++ [d4], sa4.keep g4 k5, g4, G4, ?_, L2.upd_same, AtL.append (AtL.keep k5 nds (AtL.keep (t2.keep e4) nds al)) (AtL.one (At.keep k5 nd4 a4)), nlL_snoc nd4 ds nds, by rw [List.length_append, dl]; rfl, ?_⟩
    · have : (i + 1) * c' = i * c' + c' := Nat.succ_mul i c'
      exact (t4.put l1 l2).le (by omega)
    · intro d hd
      rcases List.mem_append.mp hd with hd | hd
      · exact dp d hd
      · rw [List.mem_singleton.mp hd]; exact pd4
  · have e : i = m := by omega
    subst e
    exact .inl ⟨Nat.le_refl _, kk Γ' σ' H' acc ds i pd gG e2 (t2.le (by omega)) sa2 g2 hacc al nds dl dp⟩
/-- l.append(tx), l a slot -/
theorem app_tap {j : Nat} {l : Addr} {σ : L2.St} {H : Hp} {E : Ends} {acc : List V} (h : EvT K p q tx Γ c P) (hj : Γ[j]? = some (some (.ref l))) (lb : c ≤ b) (sa : SA K H σ Γ) (tp : Tap p q b H) (hl : H l = some (.lst acc)) (hz : acc.length ≤ 100000) (l1 : l ≠ p)
    (k : ∀ H' v d, P d → nl d = true → SameS [p] H H' → Tap p q (b - c) H' → At K H' d v → E.nx σ (L2.upd H' l (.lst (acc ++ [v])))) : tDrop (tBM K "list" rAppend (tVar j) (tCons tx tNil)) E σ H := by
  obtain ⟨vl, evl, avl⟩ := sa.at_ j _ hj
  refine ⟨vl, evl, ?_⟩
  rw [show vl = .ref l from avl]
  refine ⟨.inl ⟨rfl, acc, SqL.of hl⟩, ?_⟩
  refine h b σ H lb sa tp _ fun v4 H4 d4 pd4 nd4 e4 t4 a4 => ?_
  exact ⟨l, acc, v4, rfl, rfl, e4 l _ (by simpa using l1) hl, szl hz, k H4 v4 d4 pd4 nd4 e4 t4 a4⟩
end
end Wk
set_option Elab.async false
set_option linter.all false
set_option maxRecDepth 100000
set_option maxHeartbeats 4000000
/-! a small crew; an order of all hands -/
namespace Wk
open PySem PySem.Spec PyProof.Rows L2
section
variable {P : Program} {w : World} {K : PySem.W.Frag} {mg : Str → Option Value} {base : Heap}
local macro_rules | `(tactic| walk_at "ev") => `(tactic| first
  | exact ev_int | exact ev_str | exact ev_var rfl | exact ev_pt ev_pt0
  | (refine ev_tup ?_ (sz5 (Nat.le_of_ble_eq_true rfl)); walk_at "eva"))
local macro_rules | `(tactic| walk_at "eva") => `(tactic| first | exact eva_nil | (refine eva_cons ?_ ?_; walk_at "ev"; walk_at "eva"))
local macro_rules | `(tactic| walk_at "nt") => `(tactic| refine qt_nf (by simp only [List.map_cons, List.map_nil, List.cons_append, List.nil_append, List.length_cons, List.length_nil, List.replicate_succ, List.replicate_zero, List.set_cons_succ, List.set_cons_zero, Nat.reduceAdd, Nat.reduceSub, N__law_small, N__law_order]; exact rfl) ?_)
local macro_rules | `(tactic| walk_at "nl") => `(tactic| exact nlG_of (by simp [nlGb, nl, nlL, nl_sm, nl_pg]))
theorem nl_ints {l : List Int} : nlL (l.map D.int) = true := nlL_of fun d hd => by
  obtain ⟨i, _, rfl⟩ := List.mem_map.mp hd; rfl
theorem ints_of : ∀ {ds : List D}, (∀ d ∈ ds, ∃ i : Int, d = .int i) → ∃ l : List Int, ds = l.map .int
  | [], _ => ⟨[], rfl⟩
  | d :: ds, h => by
    obtain ⟨i, rfl⟩ := h d List.mem_cons_self
    obtain ⟨l, rfl⟩ := ints_of (ds := ds) fun x hx => h x (List.mem_cons_of_mem _ hx)
    exact ⟨i :: l, rfl⟩
/-- (a, b)[i:] -/
theorem evt_slF {Γ : Gm} {p q : Addr} {te tl : TE} {c c' : Nat} {P1 P2 : D → Prop} (g : nlG Γ) (h1 : EvT K p q te Γ c P1) (h2 : EvT K p q tl Γ c' P2) {P3 : D → Prop} (hr : ∀ d1 d2, P1 d1 → P2 d2 → ∃ (ds : List D) (i : Nat), d1 = .tup ds ∧ d2 = .int (i : Int) ∧ i ≤ ds.length ∧ nlL (ds.drop i) = true ∧ P3 (.tup (ds.drop i))) :
    EvT K p q (tSl (rSlA K) te (tPart tl) tNoPart) Γ (c + c') P3 := fun b σ H lb sa tp Q k =>
  h1 b σ H (by omega) sa tp _ fun v H1 d1 pd1 n1 e1 t1 a1 => h2 (b - c) σ H1 (by omega) (sa.keep g (tp.keep e1)) t1 _ fun v2 H2 d2 pd2 n2 e2 t2 a2 => by
    obtain ⟨ds, i, rfl, rfl, hi, nd, p3⟩ := hr d1 d2 pd1 pd2
    refine ⟨(i : Int), a2, ?_⟩
    obtain ⟨r, xs, e, hs, al⟩ := At.keep (t1.keep e2) n1 a1
    have e' := e1.trans e2
    have cf := cut_from (ds := ds) hi
    refine ⟨r, xs, e, .inl hs, fun z => ?_, fun z l hl => ?_⟩
    · have := AtL.cut (lo := some (i : Int)) (hi := none) al
      rw [← slice_all z, cf] at this
      exact k _ _ (.tup (ds.drop i)) p3 nd e' (t2.le (by omega)) ⟨r, xs, rfl, hs, this⟩
    · have := AtL.cut (lo := some (i : Int)) (hi := none) al
      rw [cf] at this
      exact k _ _ (.tup (ds.drop i)) p3 nd (e'.trans (SameS.of (Same.new hl))) ((t2.same (Same.new hl)).le (by omega)) (At.tup_new hl this)
theorem seq_new {j : Nat} {u : TS} {E : Ends} {σ : L2.St} {H : Hp} (h : ∀ l, H l = none → u E (σ.set j (some (.ref l))) (L2.upd H l (.lst []))) : tSeq (tAsg (tLst tNil) (gName j)) u E σ H := ⟨Nat.zero_le _, h⟩
theorem seq_set {te : TE} {i : Nat} {u : TS} {E : Ends} {σ : L2.St} {H : Hp} (h : te σ H fun v H1 => u E (σ.set i (some v)) H1) : tSeq (tAsg te (gName i)) u E σ H := h
theorem seq_of {t u : TS} {E : Ends} {σ : L2.St} {H : Hp} (h : t { E with nx := u E } σ H) : tSeq t u E σ H := h
structure SmallOk (nums : List Int) (cw : Crew) : Prop where
  n1 : 1 ≤ nums.length
  n3 : nums.length ≤ 3
  h1 : 1 ≤ cw.length
  h3 : cw.length ≤ 3
  ok : CrewOk nums.length cw
  two : ∀ ps ∈ cw, ps.length ≤ 2
def R_small (ds : List D) (c : Nat) (Q : D → Prop) : Prop := ds = [] ∧ c = 60000 ∧ Q = fun d => ∃ (nums : List Int) (cw : Crew), d = .tup [.tup (nums.map .int), .tup (handsL cw)] ∧ SmallOk nums cw
def handP (m : Nat) (d : D) : Prop := ∃ ps : List Pg, d = .tup (ps.map pgD) ∧ ps.length ≤ 2 ∧ ∀ p ∈ ps, pgOk m p ∧ pgDep p ≤ 3 ∧ pgSize p ≤ 10000
theorem crew_of {m : Nat} : ∀ {ds : List D}, (∀ d ∈ ds, handP m d) → ∃ cw : Crew, ds = handsL cw ∧ CrewOk m cw ∧ ∀ ps ∈ cw, ps.length ≤ 2
  | [], _ => ⟨[], rfl, fun _ h => by simp at h, fun _ h => by simp at h⟩
  | d :: ds, h => by
    obtain ⟨ps, rfl, h1, h2⟩ := h d List.mem_cons_self
    obtain ⟨cw, rfl, g1, g2⟩ := crew_of (ds := ds) fun x hx => h x (List.mem_cons_of_mem _ hx)
    refine ⟨ps :: cw, rfl, fun x hx => ?_, fun x hx => ?_⟩
    · rcases List.mem_cons.mp hx with e | e
      · subst e; exact h2
      · exact g1 x e
    · rcases List.mem_cons.mp hx with e | e
      · subst e; exact h1
      · exact g2 x e
theorem ok_small (T : Txt K w mg) : FnOk P w K mg base CX0 15 T.d__law_small.f T.d__law_small.fd ["_law_tap_here"] (spT K R_small) := by
  have G__law_pick := ok_pick (P := P) (base := base) T
  have G__law_number := ok_number (P := P) (base := base) T
  have G__law_pact := ok_pact (P := P) (base := base) T
  refine fn_tap T.d__law_small.F sc__law_small (fun ds c Q h => by obtain ⟨rfl, _⟩ := h; rfl) fun cdv A outer s H E hr => ?_
  refine ⟨_, (pss_cons (ps_set (i := 1) sc__law_small.nd rfl (Or.inl rfl) (pe_op op_add pe_int (pe_call G__law_pick (hr.mono (by first | decide | omega)) rfl T.d__law_pick.m T.d__law_pick.kp (b__law_pick T.d__law_pick.F) .nil pass0 (pa_cons (pv 0) (pa_cons pe_int pa_nil)))))
    (pss_cons (ps_set (i := 2) sc__law_small.nd rfl (Or.inl rfl) (pe_callTy call_tuple_of (by rfl) T.z_tuple (by decide +kernel) (pa_cons (pe_lc (own := [("_law_k", 4)]) (g := (gName 4)) (tt := tYes) (te := (tCall (spT K R_number) [] E0 (tCons (tVar 0) tNil))) rfl sc__law_small.nd (pi_range1 rfl T.z_range (pa_cons (pv 1) pa_nil)) (blkOk_by (N := N__law_small) (sc := defScope s__law_small) (by decide +kernel)) (fun _ _ _ _ _ => (pg_name (i := 4) sc__law_small.nd rfl (Or.inl rfl) (.inr rfl))) (fun _ _ _ _ _ => pts_nil) (fun _ _ _ _ _ => (pe_call G__law_number (hr.mono (by first | decide | omega)) rfl T.d__law_number.m T.d__law_number.kp (b__law_number T.d__law_number.F) .nil pass0 (pa_cons (pv 0) pa_nil)))) pa_nil)))
    (pss_cons (ps_set (i := 3) sc__law_small.nd rfl (Or.inl rfl) (pe_lst pa_nil))
    (pss_cons (ps_for PassesOwn.never rfl (pi_range1 rfl T.z_range (pa_cons (pe_op op_add pe_int (pe_call G__law_pick (hr.mono (by first | decide | omega)) rfl T.d__law_pick.m T.d__law_pick.kp (b__law_pick T.d__law_pick.F) .nil pass0 (pa_cons (pv 0) (pa_cons pe_int pa_nil)))) pa_nil)) (pg_name (i := 4) sc__law_small.nd rfl (Or.inl rfl)) (pss_cons (ps_set (i := 5) sc__law_small.nd rfl (Or.inl rfl) (pe_call G__law_pick (hr.mono (by first | decide | omega)) rfl T.d__law_pick.m T.d__law_pick.kp (b__law_pick T.d__law_pick.F) .nil pass0 (pa_cons (pv 0) (pa_cons (pv 1) pa_nil))))
    (pss_cons (ps_set (i := 6) sc__law_small.nd rfl (Or.inl rfl) (pe_tup (pa_cons (pe_tup (pa_cons pe_str (pa_cons pe_str (pa_cons (pv 5) pa_nil)))) (pa_cons (pe_tup (pa_cons pe_str (pa_cons (pe_op op_modN (pe_op op_add (pv 5) pe_int) (pv 1)) (pa_cons (pe_tup (pa_cons pe_str (pa_cons (pe_tup (pa_cons pe_str (pa_cons pe_str pa_nil))) (pa_cons (pe_tup (pa_cons pe_str (pa_cons pe_int pa_nil))) pa_nil)))) pa_nil)))) pa_nil))))
    (pss_one (ps_expr (pe_bm PySem.F.plainAttrs_list PySem.F.slot_list_append PySem.F.type_list_append mt_append (pv 3) (pa_cons (pe_slice sl_tupA (pe_tup (pa_cons (pv 6) (pa_cons (pe_call G__law_pact (hr.mono (by first | decide | omega)) rfl T.d__law_pact.m T.d__law_pact.kp (b__law_pact T.d__law_pact.F) .nil pass0 (pa_cons (pv 0) (pa_cons (pv 1) pa_nil))) pa_nil))) (po_some (pe_call G__law_pick (hr.mono (by first | decide | omega)) rfl T.d__law_pick.m T.d__law_pick.kp (b__law_pick T.d__law_pick.F) .nil pass0 (pa_cons (pv 0) (pa_cons pe_int pa_nil)))) po_none) pa_nil)))))))
    (pss_one (ps_ret (pe_tup (pa_cons (pv 2) (pa_cons (pe_callTy call_tuple_of (by rfl) T.z_tuple (by decide +kernel) (pa_cons (pv 3) pa_nil)) pa_nil))))))))), fun p q b ds c Pp h lb nd => ?_⟩
  obtain ⟨rfl, rfl, rfl⟩ := h
  walk_at "nt"
  refine qt_seq (qt_set (c := 1) (P := fun d => ∃ m : Nat, 1 ≤ m ∧ m ≤ 3 ∧ d = .int (m : Int)) (evt_le (evt_op (P2 := fun d => ∃ m : Nat, 1 ≤ m ∧ m ≤ 3 ∧ d = .int (m : Int)) (by walk_at "nl") (evt_of ev_int rfl) (ev_pick (m := 3) rfl ev_int (by decide) (by decide)) ?_) (by decide) fun _ h => h) (by omega) fun d h => ?_)
  · rintro d1 d2 rfl ⟨i, hi, rfl⟩
    exact ⟨.int ((1 + i : Nat) : Int), ⟨1 + i, by omega, by omega, rfl⟩, rfl, (by rw [show ((1 + i : Nat) : Int) = 1 + (i : Int) by omega]; exact rd_int)⟩
  obtain ⟨m, m1, m3, rfl⟩ := h
  walk_at "nt"
  refine qt_seq (qt_set (c := 0 + 3 * 4) (evt_tlc (i := 4) (N := 3) (c := 0) (c' := 4) (P := fun d => d = .int (m : Int)) (P' := fun d => ∃ i : Int, d = .int i) (by walk_at "nl") (evt_of (ev_var rfl) rfl) (fun d e => ⟨m, m3, e⟩) (by decide) (fun x => evt_call0 (eva_cons (ev_var rfl) eva_nil) rfl ⟨rfl, rfl, rfl⟩)) (by omega) fun d h => ?_)
  obtain ⟨ds, n, rfl, hl, hn, hds⟩ := h
  have hn : n = m := by have := D.int.inj hn; omega
  subst hn
  obtain ⟨nums, rfl⟩ := ints_of hds
  rw [List.length_map] at hl
  walk_at "nt"
  intro σ H E sa g tp nn r
  refine seq_new fun l hl0 => ?_
  obtain ⟨l1, l2⟩ := tp.fresh hl0
  have sa1 : SA K (L2.upd H l (.lst [])) (σ.set 3 (some (.ref l))) [some (.ref p), some (.int (n : Int)), some (.tup (nums.map .int)), some (.ref l), none, none, none] := (sa.mono (Same.new hl0)).set (d := .ref l) rfl
  have tp1 := tp.same (Same.new (o := .lst []) hl0)
  refine seq_of (for_tap (k := 4) (N := 3) (c := 1) (c' := 11000) (l := l) (P := fun d => ∃ m : Nat, 1 ≤ m ∧ m ≤ 3 ∧ d = .int (m : Int)) (P' := handP n) (G := fun Γ => ∃ a b c : Option D, Γ = [some (.ref p), some (.int (n : Int)), some (.tup (nums.map .int)), some (.ref l), a, b, c]) (q := q) ?_ (fun d ⟨m, _, h3, e⟩ => ⟨m, h3, e⟩) (by decide) ⟨_, _, _, rfl⟩ (fun Γ x ⟨a, b, c, e⟩ => ⟨some (.int x), b, c, by rw [e]; rfl⟩) ?_ ?_ sa1 (nlG_of (by simp [nlGb, nl, nl_ints])) tp1 (SameS.of (Same.new hl0)) hl0 L2.upd_same l1 l2 ?_)
  · refine evt_le (evt_op (P2 := fun d => ∃ m : Nat, 1 ≤ m ∧ m ≤ 3 ∧ d = .int (m : Int)) (nlG_of (by simp [nlGb, nl, nl_ints])) (evt_of ev_int rfl) (ev_pick (m := 3) rfl ev_int (by decide) (by decide)) ?_) (by decide) fun _ h => h
    rintro d1 d2 rfl ⟨i, hi, rfl⟩
    exact ⟨.int ((1 + i : Nat) : Int), ⟨1 + i, by omega, by omega, rfl⟩, rfl, (by rw [show ((1 + i : Nat) : Int) = 1 + (i : Int) by omega]; exact rd_int)⟩
  · rintro Γ b2 σ2 H2 E2 acc ⟨a, bb, c, rfl⟩ lb2 sa2 g2 t2 hacc hz k
    refine seq_set (ev_pick (m := n) (i := 0) (p := p) (q := q) rfl (ev_var rfl) m1 (by omega) b2 σ2 H2 (by omega) sa2 t2 _ fun v3 H3 d3 ⟨at3, hat, ed3⟩ n3 e3 t3 a3 => ?_)
    subst ed3
    have sa3 : SA K H3 (σ2.set 5 (some v3)) [some (.ref p), some (.int (n : Int)), some (.tup (nums.map .int)), some (.ref l), a, some (.int (at3 : Int)), c] := (sa2.keep g2 (t2.keep e3)).set a3
    have g3 : nlG [some (.ref p), some (.int (n : Int)), some (.tup (nums.map .int)), some (.ref l), a, some (.int (at3 : Int)), c] := g2.set (i := 5) (d := .int (at3 : Int)) rfl
    obtain ⟨o, ho, eo⟩ : ∃ o : Nat, o < n ∧ ((at3 : Int) + 1).fmod (n : Int) = (o : Int) := by
      have h1 := fmod_lo (i := (at3 : Int) + 1) (m := (n : Int)) (by omega)
      have h2 := fmod_hi (i := (at3 : Int) + 1) (m := (n : Int)) (by omega)
      exact ⟨(((at3 : Int) + 1).fmod (n : Int)).toNat, by omega, by omega⟩
    have form : Ev K _ [some (.ref p), some (.int (n : Int)), some (.tup (nums.map .int)), some (.ref l), a, some (.int (at3 : Int)), c] (pgD [.read .a at3, .write o (.plus (.slot .a) (.num 1))]) :=
      ev_tup (eva_cons (ev_tup (eva_cons ev_str (eva_cons ev_str (eva_cons (ev_var (i := 5) rfl) eva_nil))) (sz5 (Nat.le_of_ble_eq_true rfl))) (eva_cons (d := .tup [.str "write", .int (o : Int), .tup [.str "plus", .tup [.str "slot", .str "a"], .tup [.str "num", .int 1]]]) (ev_tup (eva_cons ev_str (eva_cons (d := .int (o : Int)) ((ev_op (ev_op (ev_var (i := 5) rfl) ev_int (rd_int (g := fun i j => i + j))) (ev_var (i := 1) rfl) (rd_I (c := fun _ j => j ≠ 0) (g := fun i j => i.fmod j) (by omega))).eq (by rw [eo])) (eva_cons (ev_tup (eva_cons ev_str (eva_cons (ev_tup (eva_cons ev_str (eva_cons ev_str eva_nil)) (sz5 (Nat.le_of_ble_eq_true rfl))) (eva_cons (ev_tup (eva_cons ev_str (eva_cons ev_int eva_nil)) (sz5 (Nat.le_of_ble_eq_true rfl))) eva_nil))) (sz5 (Nat.le_of_ble_eq_true rfl))) eva_nil))) (sz5 (Nat.le_of_ble_eq_true rfl))) eva_nil)) (sz5 (Nat.le_of_ble_eq_true rfl))
    refine seq_set (form _ H3 sa3 _ fun v4 H4 e4 a4 => ?_)
    have sa4 : SA K H4 ((σ2.set 5 (some v3)).set 6 (some v4)) [some (.ref p), some (.int (n : Int)), some (.tup (nums.map .int)), some (.ref l), a, some (.int (at3 : Int)), some (pgD [.read .a at3, .write o (.plus (.slot .a) (.num 1))])] := (sa3.mono e4).set a4
    have g4 : nlG [some (.ref p), some (.int (n : Int)), some (.tup (nums.map .int)), some (.ref l), a, some (.int (at3 : Int)), some (pgD [.read .a at3, .write o (.plus (.slot .a) (.num 1))])] := g3.set (i := 6) nl_pg
    have t4 := t3.same e4
    have hacc4 : H4 l = some (.lst acc) := e4 _ _ (e3 l _ (by simpa using l1) hacc)
    refine app_tap (p := p) (q := q) (c := 10001) (P := handP n) (Γ := [some (.ref p), some (.int (n : Int)), some (.tup (nums.map .int)), some (.ref l), a, some (.int (at3 : Int)), some (pgD [.read .a at3, .write o (.plus (.slot .a) (.num 1))])]) (b := b2 - 1) ?_ rfl (by omega) sa4 t4 hacc4 hz l1 fun H5 v5 d5 p5 n5 e5 t5 a5 => ?_
    · refine evt_le (evt_slF (P3 := handP n) g4 (evt_tup (evta_cons g4 (evt_of (ev_var rfl) nl_pg) (evta_cons g4 (evt_call0 (R := R_pact) (eva_cons (ev_var rfl) (eva_cons (ev_var rfl) eva_nil)) rfl ⟨n, rfl, m1, by omega, rfl, rfl⟩) evta_nil)) ?_) (ev_pick (m := 2) rfl ev_int (by decide) (by decide)) ?_) (by decide) fun _ h => h
      · rintro ds ⟨_, _, rfl, _, _, _, rfl, _, rfl⟩; exact (by decide : 2 ≤ 100000)
      · rintro d1 d2 ⟨_, ⟨_, _, rfl, rfl, _, _, rfl, ⟨z, rfl, z1, z2, z3⟩, rfl⟩, rfl⟩ ⟨i, hi, rfl⟩
        have okf : pgOk n [.read .a at3, .write o (.plus (.slot .a) (.num 1))] := ⟨hat, ⟨ho, (by decide : 1 ≤ 3)⟩, trivial⟩
        match i, hi with
        | 0, _ =>
          refine ⟨_, 0, rfl, rfl, Nat.zero_le _, by simp [nlL, nl_pg], [_, z], rfl, Nat.le_refl _, fun x hx => ?_⟩
          rcases List.mem_cons.mp hx with e | e
          · subst e; exact ⟨okf, Nat.le_of_ble_eq_true rfl, Nat.le_of_ble_eq_true rfl⟩
          · rw [List.mem_singleton.mp e]; exact ⟨z1, z2, z3⟩
        | 1, _ =>
          refine ⟨_, 1, rfl, rfl, by simp, by simp [nlL, nl_pg], [z], rfl, by simp, fun x hx => ?_⟩
          rw [List.mem_singleton.mp hx]; exact ⟨z1, z2, z3⟩
    · refine k _ _ H5 v5 d5 ⟨a, _, _, rfl⟩ p5 n5 ((e3.trans (SameS.of e4)).trans e5) (t5.le (by omega)) (sa4.keep g4 (t4.keep e5)) g4 a5
  · omega
  · rintro Γ σ2 H2 acc ds k ⟨k0, k1, k3, ek⟩ ⟨a, bb, c, rfl⟩ e2 t2 sa2 g2 hacc al nds dl dp
    obtain ⟨cw, rfl, c1, c2⟩ := crew_of dp
    have clen : cw.length = k := by unfold handsL at dl; rw [List.length_map] at dl; exact dl
    have ek : k = k0 := by have := D.int.inj ek; omega
    obtain ⟨v2, ev2, av2⟩ := sa2.at_ 2 _ rfl
    obtain ⟨v3, ev3, av3⟩ := sa2.at_ 3 _ rfl
    refine ⟨v2, ev2, v3, ev3, l, acc, by rw [show v3 = .ref l from av3], .inl ⟨SqL.of hacc, fun r0 hr0 => ⟨sz5 (Nat.le_of_ble_eq_true rfl), fun r1 hr1 => ?_⟩⟩⟩
    have s3 := Same.new (o := .tup acc) hr0
    have s4 := Same.new (o := .tup [v2, .ref r0]) hr1
    refine r (.tup [.tup (nums.map .int), .tup (handsL cw)]) _ (b - 1 - (0 + 3 * 4) - (1 + 3 * 11000)) _ ⟨⟨nums, cw, rfl, ⟨by omega, by omega, by omega, by omega, by rw [hl]; exact c1, c2⟩⟩, by omega⟩ (by simp only [nl, nlL, nl_ints, nds]; rfl) ((e2.trans (SameS.of s3)).trans (SameS.of s4)) ((t2.same s3).same s4) ?_
    exact At.tup_new hr1 ⟨v2, [.ref r0], rfl, At.mono s3 av2, .ref r0, [], rfl, At.tup_new hr0 al, rfl⟩
end
end Wk
set_option Elab.async false
set_option linter.all false
set_option maxRecDepth 100000
set_option maxHeartbeats 2000000
/-! an order of all hands; the tap -/
namespace Wk
open PySem PySem.Spec PyProof.Rows L2
section
variable {P : Program} {w : World} {K : PySem.W.Frag} {mg : Str → Option Value} {base : Heap}
local macro_rules | `(tactic| walk_at "nt") => `(tactic| refine qt_nf (by simp only [List.map_cons, List.map_nil, List.cons_append, List.nil_append, List.length_cons, List.length_nil, List.replicate_succ, List.replicate_zero, List.set_cons_succ, List.set_cons_zero, Nat.reduceAdd, Nat.reduceSub, N__law_order]; exact rfl) ?_)
abbrev iV (l : List Nat) : List V := l.map fun i : Nat => V.int (i : Int)
abbrev iD (l : List Nat) : List D := l.map fun i : Nat => D.int (i : Int)
theorem at_iD {H : Hp} : ∀ {l : List Nat}, AtL K H (iD l) (iV l)
  | [] => rfl
  | i :: l => ⟨_, _, rfl, rfl, at_iD (l := l)⟩
theorem nl_iD {l : List Nat} : nlL (iD l) = true := nlL_of fun d hd => by
  obtain ⟨i, _, rfl⟩ := List.mem_map.mp hd; rfl
def R_order (ds : List D) (c : Nat) (Q : D → Prop) : Prop := ∃ n : Nat, ds = [.int (n : Int)] ∧ n ≤ 1000 ∧ c = n ∧ Q = fun d => ∃ l : List Nat, d = .tup (iD l) ∧ l.Perm (List.range n)
theorem seq_par {i j : Nat} {ta : TA} {u : TS} {E : Ends} {σ : L2.St} {H : Hp} (h : ta σ H fun vs H1 => ∃ v w, vs = [v, w] ∧ u E ((σ.set i (some v)).set j (some w)) H1) : tSeq (tPar i j ta) u E σ H := h
theorem rgV_iV {n : Nat} : rgV 0 (n : Int) = iV (List.range n) := by
  unfold rgV iV
  rw [Int.sub_zero, Int.toNat_natCast]
  refine List.map_congr_left fun i _ => ?_
  rw [Int.zero_add]
theorem sa_list {i : Nat} {Γ : Gm} {σ : L2.St} {H : Hp} {l : Addr} {ls : List Nat} (sa : SA K H σ Γ) (h2 : Γ[i]? = some (some (.ref l))) (hl : H l = some (.lst (iV ls))) : SA K H σ (Γ.set i (some (.lst (iD ls)))) := by
  refine ⟨by rw [List.length_set]; exact sa.len, fun j d e => ?_⟩
  by_cases z : i = j
  · subst z
    rw [List.getElem?_set_self (List.getElem?_eq_some_iff.mp h2).1] at e
    cases e
    obtain ⟨v, ev, av⟩ := sa.at_ i _ h2
    exact ⟨v, ev, l, _, av, SqL.of hl, at_iD⟩
  · rw [List.getElem?_set_ne z] at e; exact sa.at_ j d e
theorem iV_erase : ∀ (l : List Nat) (i : Nat), (iV l).eraseIdx i = iV (l.eraseIdx i)
  | [], _ => rfl
  | a :: l, 0 => rfl
  | a :: l, i + 1 => congrArg (fun z => V.int (a : Int) :: z) (iV_erase l i)
theorem perm_erase : ∀ {l : List Nat} {i : Nat} (h : i < l.length), (l[i] :: l.eraseIdx i).Perm l
  | a :: l, 0, _ => List.Perm.refl _
  | a :: l, i + 1, h => by
    have hi : i < l.length := by simpa using h
    exact (List.Perm.swap a (l[i]'hi) (l.eraseIdx i)).trans ((perm_erase hi).cons a)
theorem ok_order (T : Txt K w mg) : FnOk P w K mg base CX0 2 T.d__law_order.f T.d__law_order.fd ["_law_tap_here", "_law_crowd"] (spT K R_order) := by
  have G__law_pick := ok_pick (P := P) (base := base) T
  refine fn_tap T.d__law_order.F sc__law_order (fun ds c Q h => by obtain ⟨_, rfl, _⟩ := h; rfl) fun cdv A outer s H E hr => ?_
  refine ⟨_, (pss_cons (ps_par (i := 2) (j := 3) rfl sc__law_order.nd rfl rfl (by decide) rfl rfl (pa_cons (pe_listRg rfl rfl T.z_list (prg_1 rfl T.z_range (pv 1))) (pa_cons (pe_lst pa_nil) pa_nil)) (by rfl))
    (pss_cons (ps_while PassesOwn.never (pt_cmpR (op_neD hr.units) (pv 2) (pe_lst pa_nil) (nomark _)) (pss_one (ps_expr (pe_bm PySem.F.plainAttrs_list PySem.F.slot_list_append PySem.F.type_list_append mt_append (pv 3) (pa_cons (pe_bm PySem.F.plainAttrs_list PySem.F.slot_list_pop PySem.F.type_list_pop mt_popAt (pv 2) (pa_cons (pe_call G__law_pick (hr.mono (by first | decide | omega)) rfl T.d__law_pick.m T.d__law_pick.kp (b__law_pick T.d__law_pick.F) .nil pass0 (pa_cons (pv 0) (pa_cons (pe_callB call_len_seq (by rfl) T.z_len PySem.boot_len (pa_cons (pv 2) pa_nil)) pa_nil))) pa_nil)) pa_nil)))))
    (pss_one (ps_ret (pe_callTy call_tuple_of (by rfl) T.z_tuple (by decide +kernel) (pa_cons (pv 3) pa_nil)))))), fun p q b ds c Pp h lb nd => ?_⟩
  obtain ⟨n, rfl, n1, ec, rfl⟩ := h
  have ec := ec.symm
  subst ec
  walk_at "nt"
  intro σ H E sa g tp nn r
  refine seq_par ?_
  obtain ⟨v1, e1, a1⟩ := sa.at_ 1 _ rfl
  refine ⟨v1, e1, (n : Int), a1, RgOk.of_le (by decide) (by omega) (by decide) (by omega), fun L hL => ⟨Nat.zero_le _, fun F hF => ⟨.ref L, .ref F, rfl, ?_⟩⟩⟩
  have sL := Same.new (o := .lst (rgV 0 (n : Int))) hL
  have sF := Same.new (o := .lst []) hF
  have FL : F ≠ L := by rintro rfl; rw [L2.upd_same] at hF; cases hF
  have hF0 : H F = none := by rw [L2.upd_ne FL] at hF; exact hF
  obtain ⟨l1, l2⟩ := tp.fresh hL
  obtain ⟨f1, f2⟩ := tp.fresh hF0
  have sa2 : SA K _ ((σ.set 2 (some (.ref L))).set 3 (some (.ref F))) [some (.ref p), some (.int (n : Int)), some (.ref L), some (.ref F)] := ((sa.mono (sL.trans sF)).set (i := 2) (d := .ref L) rfl).set (i := 3) (d := .ref F) rfl
  have g2 : nlG [some (.ref p), some (.int (n : Int)), some (.ref L), some (.ref F)] := nlG_of rfl
  refine seq_of ⟨fun m σ' H' => ∃ (ls fs : List Nat) (b' : Nat), m = ls.length ∧ SA K H' σ' [some (.ref p), some (.int (n : Int)), some (.ref L), some (.ref F)] ∧ SameS [p] H H' ∧ Tap p q b' H' ∧ b - n + ls.length ≤ b' ∧ H' L = some (.lst (iV ls)) ∧ H' F = some (.lst (iV fs)) ∧ (fs ++ ls).Perm (List.range n),
    ⟨n, List.range n, [], b, by simp, sa2, SameS.of (sL.trans sF), (tp.same sL).same sF, by rw [List.length_range]; omega, by rw [L2.upd_ne FL.symm, L2.upd_same, rgV_iV], by rw [L2.upd_same]; rfl, by rw [List.nil_append]⟩, fun m σ' H' ⟨ls, fs, b', em, sa', e', tp', hb, hL', hF', pm⟩ => ?_⟩
  have sl := sa_list sa' (i := 2) rfl hL'
  have hlen : ls.length ≤ n ∧ fs.length ≤ n := by have := pm.length_eq; rw [List.length_append, List.length_range] at this; omega
  refine (eb_test (ev_op (ev_var rfl) (ev_lst eva_nil (Nat.zero_le _)) (rd_neL (n := 0) (gdL_of fun _ _ => rfl) (by decide))) : EvB K _ _ (!(iD ls).isEmpty)) σ' H' sl _ fun H1 eq1 => ?_
  cases els : ls with
  | nil =>
    subst els
    refine iteF ?_
    have sa1 := sa'.mono eq1
    obtain ⟨v3, ev3, av3⟩ := sa1.at_ 3 _ rfl
    refine ⟨v3, ev3, F, _, by rw [show v3 = .ref F from av3], .inl ⟨SqL.of (eq1 _ _ hF'), fun r0 hr0 => ?_⟩⟩
    rw [List.append_nil] at pm
    exact r (.tup (iD fs)) _ b' _ ⟨⟨fs, rfl, pm⟩, by simp at hb; omega⟩ nl_iD ((e'.trans (SameS.of eq1)).trans (SameS.of (Same.new hr0))) ((tp'.same eq1).same (Same.new hr0)) (At.tup_new hr0 at_iD)
  | cons x xs =>
    refine iteT ⟨_, fun σ2 H2 z => z, ?_⟩
    have hpos : 0 < ls.length := by rw [els]; simp
    have sa1 := sa'.mono eq1
    have sl1 := sl.mono eq1
    have hL1 := eq1 _ _ hL'
    have hF1 := eq1 _ _ hF'
    have tp1 := tp'.same eq1
    obtain ⟨v3, ev3, av3⟩ := sa1.at_ 3 _ rfl
    obtain ⟨v2, ev2, av2⟩ := sa1.at_ 2 _ rfl
    refine ⟨v3, ev3, ?_⟩
    rw [show v3 = .ref F from av3]
    refine ⟨.inl ⟨rfl, _, SqL.of hF1⟩, v2, ev2, ?_⟩
    rw [show v2 = .ref L from av2]
    refine ⟨.inl ⟨rfl, _, SqL.of hL1⟩, ?_⟩
    have pick : EvT K p q _ ([some (.ref p), some (.int (n : Int)), some (.ref L), some (.ref F)].set 2 (some (.lst (iD ls)))) 1 (fun d => ∃ i : Nat, i < ls.length ∧ d = .int (i : Int)) := ev_pick (E := E0) (m := ls.length) (i := 0) rfl ((ev_cb (eva_cons (ev_var (i := 2) rfl) eva_nil) rc_lenL).eq (by unfold iD; rw [List.length_map])) hpos (by omega)
    refine pick b' σ' H1 (by omega) sl1 tp1 _ fun v4 H4 d4 ⟨i, hi, ed⟩ n4 e4 t4 a4 => ?_
    subst ed
    have hL4 : H4 L = some (.lst (iV ls)) := e4 L _ (by simpa using l1) hL1
    have hF4 : H4 F = some (.lst (iV fs)) := e4 F _ (by simpa using f1) hF1
    have hiV : (iV ls)[i]? = some (.int (ls[i] : Int)) := by unfold iV; rw [List.getElem?_map, List.getElem?_eq_getElem hi]; rfl
    refine ⟨L, iV ls, (i : Int), i, .int (ls[i] : Int), rfl, by rw [show v4 = .int (i : Int) from a4], hL4, by omega, by omega, ?_, hiV, ?_⟩
    · exact (ixN_seq (ixN_at (by unfold iV; rw [List.length_map]; exact hi))).1
    · refine ⟨F, iV fs, .int (ls[i] : Int), rfl, rfl, by rw [L2.upd_ne FL]; exact hF4, by unfold iV; rw [List.length_map]; exact szl (by omega), ?_⟩
      have k1 := tp1.keep e4
      have k2 := KeepT.lst (ys := (iV ls).eraseIdx i) hL4
      have k3 := KeepT.lst (H := L2.upd H4 L (.lst ((iV ls).eraseIdx i))) (a := F) (xs := iV fs) (ys := iV fs ++ [.int (ls[i] : Int)]) (by rw [L2.upd_ne FL]; exact hF4)
      refine ⟨(ls.eraseIdx i).length, ?_, ls.eraseIdx i, fs ++ [ls[i]], b' - 1, rfl, ((sa1.keep g2 k1).keep g2 k2).keep g2 k3, fun c u nb hc => ?_, (t4.put l1 l2).put f1 f2, ?_, ?_, ?_, ?_⟩
      · rw [em, List.length_eraseIdx_of_lt hi]; omega
      · have cL : c ≠ L := by rintro rfl; rw [hL] at hc; cases hc
        have cF : c ≠ F := by rintro rfl; rw [hF0] at hc; cases hc
        rw [L2.upd_ne cF, L2.upd_ne cL]
        exact e4 c u nb (eq1 _ _ (e' c u nb hc))
      · rw [List.length_eraseIdx_of_lt hi]; omega
      · rw [L2.upd_ne FL.symm, L2.upd_same]
        exact congrArg (fun z => some (HO.lst z)) (iV_erase ls i)
      · rw [L2.upd_same]; unfold iV; rw [List.map_append]; rfl
      · refine List.Perm.trans ?_ pm
        rw [List.append_assoc]
        exact List.Perm.append_left fs (perm_erase hi)
end
end Wk
set_option Elab.async false
set_option linter.all false
set_option maxRecDepth 100000
set_option maxHeartbeats 2000000
/-! runs -/
namespace Wk
open PySem PySem.Spec PyProof.Rows L2
section
variable {P : Program} {w : World} {K : PySem.W.Frag} {mg : Str → Option Value} {base : Heap}
local macro_rules | `(tactic| walk_at "nf") => `(tactic| refine q_nf (by simp only [List.map_cons, List.map_nil, List.cons_append, List.nil_append, List.length_cons, List.length_nil, List.replicate_succ, List.replicate_zero, List.set_cons_succ, List.set_cons_zero, Nat.reduceAdd, Nat.reduceSub, N_hand_of, N_run, N_is_quiet, N_begun]; exact rfl) ?_)
theorem nl_rs {l : K70.RL} : nlL (rsD l) = true := nlL_of fun d hd => by
  obtain ⟨q, _, rfl⟩ := List.mem_map.mp hd; rfl
theorem nl_st {cw : Crew} {m : Nat} {s : K70.S} : nl (stD cw m s) = true := by
  have h1 : nlL (handsL cw) = true := nlL_of fun d hd => by
    obtain ⟨ps, _, rfl⟩ := List.mem_map.mp hd
    exact nlL_of fun d hd => by obtain ⟨p, _, rfl⟩ := List.mem_map.mp hd; exact nl_pg
  have h2 : nlL (cellsL m s.cells) = true := nlL_of fun d hd => by
    obtain ⟨c, _, rfl⟩ := List.mem_map.mp hd
    unfold cellD; cases (s.cells c).holder <;> rfl
  have h3 : nlL (rowsL cw.length s.rows) = true := nlL_of fun d hd => by
    obtain ⟨i, _, rfl⟩ := List.mem_map.mp hd
    show nlL (rowL (s.rows i)) = true
    have a : ∀ o : Option Int, nl (optI o) = true := fun o => by cases o <;> rfl
    simp only [rowL, nlL, nl, a, nl_rs]; rfl
  simp only [stD, nl, nlL, h1, h2, h3]; rfl
theorem steps_snoc {p : K70.P} : ∀ {l : List Nat} {h : Nat} {s : K70.S}, K70.steps p (l ++ [h]) s = ((K70.step p (K70.steps p l s).1 h).1, (K70.steps p l s).2 || (K70.step p (K70.steps p l s).1 h).2)
  | [], h, s => by simp [K70.steps]
  | i :: l, h, s => by
    show ((K70.steps p (l ++ [h]) (K70.step p s i).1).1, (K70.step p s i).2 || (K70.steps p (l ++ [h]) (K70.step p s i).1).2) = _
    rw [steps_snoc (l := l)]
    show _ = ((K70.step p (K70.steps p l (K70.step p s i).1).1 h).1, ((K70.step p s i).2 || (K70.steps p l (K70.step p s i).1).2) || _)
    rw [Bool.or_assoc]
    rfl
def R_hand_of (ds : List D) (Q : D → Prop) : Prop := ∃ i : Int, ds = [.int i] ∧ Q = fun d => d = .int i
theorem ok_hand_of (T : Txt K w mg) : FnOk P w K mg base CX0 1 T.d_hand_of.f T.d_hand_of.fd ["thing"] (spD K R_hand_of) := by
  refine fn_data T.d_hand_of.F sc_hand_of (fun ds Q h => by obtain ⟨_, rfl, _⟩ := h; rfl) fun cdv A outer s H E hr => ?_
  refine ⟨_, (pss_one (ps_ret (pe_ifExp (pt_val (pe_callB call_isi (by rfl) T.z_isinstance (by decide +kernel) (pa_cons (pv 0) (pa_cons (pe_bltn (v := .ty "tuple") (by rfl) T.z_tuple (by decide +kernel) rfl) pa_nil)))) (pe_ix ix_seq (pv 0) pe_int (fun _ _ => rfl)) (pv 0)))), fun ds Q h => ?_⟩
  obtain ⟨i, rfl, rfl⟩ := h
  exact q_retD (d := .int i) (ev_if (b := false) (eb_B (ev_isi (i := i) (ev_var rfl) (by rfl))) (fun c => by cases c) fun _ => ev_var rfl) rfl
/-- events: each tells of a deed -/
def evOk (e : D) : Prop := ∃ (h : Nat) (z : Str) (rest : List D), e = .tup (.int (h : Int) :: .str z :: rest) ∧ PyData.canLay0 (.str z) = true ∧ gdL rest 8 = true
def evOn (e : D) : Prop := ∃ (h : Nat) (z : Str) (rest : List D), e = .tup (.int (h : Int) :: .str z :: rest) ∧ ¬ (z = "waits" ∨ z = "rests")
theorem ev_nl {e : D} (h : evOk e) : nl e = true := by
  obtain ⟨h, z, rest, rfl, _, g⟩ := h
  simp only [nl, nlL, gdL_nl g]; rfl
def R_run (ds : List D) (Q : D → Prop) : Prop := ∃ (cw : Crew) (m : Nat) (s : K70.S) (l : List Nat), ds = [stD cw m s, .tup (iD l), .int 400] ∧ l.length ≤ 400 ∧ (∀ h ∈ l, h < cw.length) ∧ Cx' cw m s ∧
  Q = fun d => ∃ evs : List D, d = .tup [stD cw m (K70.steps (crewP cw m) l s).1, .tup evs] ∧ evs.length = l.length ∧ (∀ e ∈ evs, evOk e) ∧ ((K70.steps (crewP cw m) l s).2 = true ↔ ∃ e ∈ evs, evOn e)
def R_stopped (ds : List D) (Q : D → Prop) : Prop := False
theorem iD_get {l : List Nat} {i : Nat} {d : D} (h : (iD l)[i]? = some d) : ∃ x, l[i]? = some x ∧ d = .int (x : Int) := by
  unfold iD at h
  rw [List.getElem?_map] at h
  cases e : l[i]? with
  | none => rw [e] at h; cases h
  | some x => rw [e] at h; exact ⟨x, rfl, (Option.some.inj h).symm⟩
theorem seq_asg {te : TE} {g : TG} {u : TS} {E : Ends} {σ : L2.St} {H : Hp} (h : te σ H fun v H1 => g v σ H1 (u E)) : tSeq (tAsg te g) u E σ H := h
theorem ok_run (T : Txt K w mg) : FnOk P w K mg base CX0 23 T.d_run.f T.d_run.fd ["state", "schedule", "most"] (spD K R_run) := by
  have G_need_hand := ok_need_hand (P := P) (base := base) T
  have G_hand_of := ok_hand_of (P := P) (base := base) T
  have G_step := ok_step (P := P) (base := base) T
  have G_stopped := ok_never (P := P) (w := w) (mg := mg) (base := base) T.d_stopped.F sc_stopped (R := R_stopped) fun _ _ h => h
  refine fn_data T.d_run.F sc_run (fun ds Q h => by obtain ⟨_, _, _, _, rfl, _⟩ := h; rfl) fun cdv A outer s H E hr => ?_
  refine ⟨_, (pss_cons (ps_for PassesOwn.never rfl (pi_tup (pv 1)) (pg_name (i := 3) sc_run.nd rfl (Or.inl rfl)) (pss_one (ps_expr (pe_call G_need_hand (hr.mono (by first | decide | omega)) rfl T.d_need_hand.m T.d_need_hand.kp (b_need_hand T.d_need_hand.F) .nil pass0 (pa_cons (pv 0) (pa_cons (pe_call G_hand_of (hr.mono (by first | decide | omega)) rfl T.d_hand_of.m T.d_hand_of.kp (b_hand_of T.d_hand_of.F) .nil pass0 (pa_cons (pv 3) pa_nil)) pa_nil))))))
    (pss_cons (ps_set (i := 4) sc_run.nd rfl (Or.inl rfl) (pe_lst pa_nil))
    (pss_cons (ps_for PassesOwn.never rfl (pi_tup (pe_slice sl_tupA (pv 1) po_none (po_some (pv 2)))) (pg_name (i := 3) sc_run.nd rfl (Or.inl rfl)) (pss_cons (ps_asg (pe_ifExp (pt_val (pe_callB call_isi (by rfl) T.z_isinstance (by decide +kernel) (pa_cons (pv 3) (pa_cons (pe_bltn (v := .ty "tuple") (by rfl) T.z_tuple (by decide +kernel) rfl) pa_nil)))) (pe_call G_stopped (hr.mono (by first | decide | omega)) rfl T.d_stopped.m T.d_stopped.kp (b_stopped T.d_stopped.F) .nil pass0 (pa_cons (pv 0) (pa_cons (pe_ix ix_seq (pv 3) pe_int (fun _ _ => rfl)) pa_nil))) (pe_call G_step (hr.mono (by first | decide | omega)) rfl T.d_step.m T.d_step.kp (b_step T.d_step.F) .nil pass0 (pa_cons (pv 0) (pa_cons (pv 3) pa_nil)))) (pg_tup rfl (pgs_cons (pg_name (i := 0) sc_run.nd rfl (Or.inl rfl)) (pgs_cons (pg_name (i := 5) sc_run.nd rfl (Or.inl rfl)) pgs_nil))))
    (pss_one (ps_expr (pe_bm PySem.F.plainAttrs_list PySem.F.slot_list_append PySem.F.type_list_append mt_append (pv 4) (pa_cons (pv 5) pa_nil))))))
    (pss_one (ps_ret (pe_tup (pa_cons (pv 0) (pa_cons (pe_callTy call_tuple_of (by rfl) T.z_tuple (by decide +kernel) (pa_cons (pv 4) pa_nil)) pa_nil)))))))), fun ds Q h => ?_⟩
  obtain ⟨cw, m, st, l, rfl, hl, hin, cx, rfl⟩ := h
  walk_at "nf"
  refine q_seq (q_forT (fun i Γ => ∃ o : Option D, (∀ d, o = some d → nl d = true) ∧ Γ = [some (stD cw m st), some (.tup (iD l)), some (.int 400), o, none, none]) (ev_var rfl) ⟨none, (fun d h => by cases h), rfl⟩ ?_ ?_)
  · rintro i d Γ hi ⟨o, _, rfl⟩
    obtain ⟨x, hx, rfl⟩ := iD_get hi
    exact gd_name (q_expr (evp_call (eva_cons (ev_var rfl) (eva_cons (d := .int (x : Int)) (ev_call (eva_cons (ev_var rfl) eva_nil) ⟨_, rfl, rfl⟩ fun _ e => e) eva_nil)) ⟨cw, m, st, x, rfl, hin x (List.mem_of_getElem? hx), rfl⟩) ⟨_, (fun d h => by rw [← Option.some.inj h]; rfl), rfl⟩)
  rintro Γ ⟨o, ho, rfl⟩
  intro σ H0 E sa n r
  refine seq_new fun L hL => ?_
  have sL := Same.new (o := .lst []) hL
  have sa1 : SA K _ (σ.set 4 (some (.ref L))) [some (stD cw m st), some (.tup (iD l)), some (.int 400), o, some (.ref L), none] := (sa.mono sL).set (i := 4) (d := .ref L) rfl
  have step : ∀ {Γ : Gm} {E2 : XK} {te : TE} {s1 : K70.S} {x : Nat}, Γ[0]? = some (some (stD cw m s1)) → Γ[3]? = some (some (.int (x : Int))) → x < cw.length → Cx' cw m s1 → EvP K (tIf (tB (tCB (rIsi K) (tCons (tVar 3) (tCons (tC (.ty "tuple")) tNil)))) te (tCall (spD K R_step) [] E2 (tCons (tVar 0) (tCons (tVar 3) tNil)))) Γ (ToldR cw m x (K70.step (crewP cw m) s1 x)) := fun g0 g3 hx cx1 =>
    evp_if (b := false) (eb_B (ev_isi (ev_var g3) (by rfl))) (fun c => by cases c) fun _ => evp_call (eva_cons (ev_var g0) (eva_cons (ev_var g3) eva_nil)) ⟨cw, m, _, _, rfl, hx, cx1, rfl⟩
  have sched : Ev K (tSl (rSlA K) (tVar 1) tNoPart (tPart (tVar 2))) [some (stD cw m st), some (.tup (iD l)), some (.int 400), o, some (.ref L), none] (.tup (iD l)) := (ev_slT (ds := iD l) (ev_var rfl) evo_none (evo_some (i := ((400 : Nat) : Int)) (ev_var rfl))).eq (by rw [cut_big (by unfold iD; rw [List.length_map]; exact hl)])
  refine seq_of (sched _ _ sa1 _ fun x H1 e1 a1 => ?_)
  obtain ⟨pa, xs, ex, hq, al⟩ := a1
  have hlen := AtL.len al
  have hlen2 : (iD l).length = l.length := by unfold iD; rw [List.length_map]
  have hq : SqT K H1 pa xs := .inl hq
  refine ⟨pa, ex, ⟨xs, hq⟩, fun i mm σ' H' => mm = l.length - i ∧ i ≤ l.length ∧ Same H0 H' ∧ SqT K H' pa xs ∧ AtL K H' (iD l) xs ∧ ∃ (o3 o5 : Option D) (acc : List V) (evs : List D), SA K H' σ' [some (stD cw m (K70.steps (crewP cw m) (l.take i) st).1), some (.tup (iD l)), some (.int 400), o3, some (.ref L), o5] ∧ nlG [some (stD cw m (K70.steps (crewP cw m) (l.take i) st).1), some (.tup (iD l)), some (.int 400), o3, some (.ref L), o5] ∧ H' L = some (.lst acc) ∧ AtL K H' evs acc ∧ evs.length = i ∧ (∀ e ∈ evs, evOk e) ∧ ((K70.steps (crewP cw m) (l.take i) st).2 = true ↔ ∃ e ∈ evs, evOn e), ⟨l.length, by simp, Nat.zero_le _, sL.trans e1, hq, al, o, none, [], [], sa1.mono e1, ?_, e1 _ _ L2.upd_same, rfl, rfl, by simp, by simp [K70.steps]⟩, ?_⟩
  · intro i d hi
    match i with
    | 0 => have : some (stD cw m (K70.steps (crewP cw m) (l.take 0) st).1) = some d := Option.some.inj hi; rw [← Option.some.inj this]; exact nl_st
    | 1 => have : some (D.tup (iD l)) = some d := Option.some.inj hi; rw [← Option.some.inj this]; exact nl_iD
    | 2 => have : some (D.int 400) = some d := Option.some.inj hi; rw [← Option.some.inj this]; rfl
    | 3 => exact ho d (Option.some.inj hi)
    | 4 => have : some (D.ref L) = some d := Option.some.inj hi; rw [← Option.some.inj this]; rfl
    | 5 => cases hi
    | k + 6 => cases hi
  rintro i mm σ' H' ⟨rfl, hi, e2, hq', al', o3, o5, acc, evs, sa2, g2, hacc, ale, el, eo, en⟩
  have nev : nlL evs = true := nlL_of fun e he => ev_nl (eo e he)
  by_cases hlt : i < l.length
  · have hxi : xs[i]? = some xs[i] := List.getElem?_eq_getElem (by omega)
    refine .inr ⟨⟨xs, xs[i], hq', hxi⟩, fun σ3 H3 => i + 1 ≤ l.length ∧ Same H0 H3 ∧ SqT K H3 pa xs ∧ AtL K H3 (iD l) xs ∧ ∃ (o3 o5 : Option D) (acc : List V) (evs : List D), SA K H3 σ3 [some (stD cw m (K70.steps (crewP cw m) (l.take (i + 1)) st).1), some (.tup (iD l)), some (.int 400), o3, some (.ref L), o5] ∧ nlG [some (stD cw m (K70.steps (crewP cw m) (l.take (i + 1)) st).1), some (.tup (iD l)), some (.int 400), o3, some (.ref L), o5] ∧ H3 L = some (.lst acc) ∧ AtL K H3 evs acc ∧ evs.length = i + 1 ∧ (∀ e ∈ evs, evOk e) ∧ ((K70.steps (crewP cw m) (l.take (i + 1)) st).2 = true ↔ ∃ e ∈ evs, evOn e), fun σ3 H3 z => ⟨l.length - (i + 1), by omega, rfl, z⟩, fun x H3 y => ?_⟩
    obtain ⟨eH, y⟩ := y
    subst eH
    have y := y xs hq'
    obtain ⟨d, hd, ad⟩ := AtL.back al' y
    obtain ⟨hh, hx, rfl⟩ := iD_get hd
    have hin' := hin hh (List.mem_of_getElem? hx)
    have tk : l.take (i + 1) = l.take i ++ [hh] := by rw [List.take_add_one, hx]; rfl
    have inv1 := (K70.steps_inv (crew_ok cx.ok) (l := l.take i) cx.inv fun x hx => hin x (List.mem_of_mem_take hx)).1
    have sa3 : SA K H3 (σ'.set 3 (some x)) [some (stD cw m (K70.steps (crewP cw m) (l.take i) st).1), some (.tup (iD l)), some (.int 400), some (.int (hh : Int)), some (.ref L), o5] := sa2.set (i := 3) ad
    have g3 : nlG [some (stD cw m (K70.steps (crewP cw m) (l.take i) st).1), some (.tup (iD l)), some (.int 400), some (.int (hh : Int)), some (.ref L), o5] := g2.set (i := 3) (d := .int (hh : Int)) rfl
    refine seq_asg (step rfl rfl hin' ⟨cx.sz, cx.ok, inv1⟩ _ H3 sa3 _ fun v4 H4 d4 pd4 e4 a4 => ?_)
    obtain ⟨z, rest, rfl, hz, hc, hg⟩ := pd4
    have hgd : GD K (gTup K 2 (gCons (gName 0) (gCons (gName 5) gNil))) (.tup [stD cw m (K70.step (crewP cw m) (K70.steps (crewP cw m) (l.take i) st).1 hh).1, .tup (.int (hh : Int) :: .str z :: rest)]) [some (stD cw m (K70.steps (crewP cw m) (l.take i) st).1), some (.tup (iD l)), some (.int 400), some (.int (hh : Int)), some (.ref L), o5] (fun Γ' => Γ' = [some (stD cw m (K70.steps (crewP cw m) (l.take (i + 1)) st).1), some (.tup (iD l)), some (.int 400), some (.int (hh : Int)), some (.ref L), some (.tup (.int (hh : Int) :: .str z :: rest))]) := gd_un2 (by rw [tk, steps_snoc]; rfl)
    refine hgd v4 _ H4 _ (sa3.mono e4) a4 fun Γ5 σ5 H5 eG e5 sa5 => ?_
    subst eG
    have e45 := e4.trans e5
    have hacc5 := e45 _ _ hacc
    have g5 : nlG [some (stD cw m (K70.steps (crewP cw m) (l.take (i + 1)) st).1), some (.tup (iD l)), some (.int 400), some (.int (hh : Int)), some (.ref L), some (.tup (.int (hh : Int) :: .str z :: rest))] := by
      have h0 : nl (D.tup (.int (hh : Int) :: .str z :: rest)) = true := ev_nl ⟨hh, z, rest, rfl, hc, hg⟩
      exact (g3.set (i := 0) (d := stD cw m (K70.steps (crewP cw m) (l.take (i + 1)) st).1) nl_st).set (i := 5) h0
    obtain ⟨v6, ev6, av6⟩ := sa5.at_ 4 _ rfl
    obtain ⟨v7, ev7, av7⟩ := sa5.at_ 5 _ rfl
    refine ⟨v6, ev6, ?_⟩
    rw [show v6 = .ref L from av6]
    refine ⟨.inl ⟨rfl, acc, SqL.of hacc5⟩, v7, ev7, L, acc, v7, rfl, rfl, hacc5, by rw [AtL.len ale, el]; exact szl (by omega), ?_⟩
    have k5 := KeepT.lst (ys := acc ++ [v7]) hacc5
    have se : Same H0 (L2.upd H5 L (.lst (acc ++ [v7]))) := Same.mut (e2.trans e45) hL
    refine ⟨hlt, se, ?_, AtL.keep k5 nl_iD (AtL.mono e45 al'), _, _, acc ++ [v7], evs ++ [.tup (.int (hh : Int) :: .str z :: rest)], sa5.keep g5 k5, g5, L2.upd_same, AtL.append (AtL.keep k5 nev (AtL.mono e45 ale)) (AtL.one (At.keep k5 (ev_nl ⟨hh, z, rest, rfl, hc, hg⟩) av7)), by rw [List.length_append, el]; rfl, fun e he => ?_, ?_⟩
    · rcases hq' with (h | ⟨o, h⟩) | h
      · exact .inl (.inl (k5 _ _ (e45 _ _ h) fun _ z => nomatch z))
      · exact .inl (.inr ⟨o, k5 _ _ (e45 _ _ h) fun _ z => nomatch z⟩)
      · exact .inr h
    · rcases List.mem_append.mp he with he | he
      · exact eo e he
      · rw [List.mem_singleton.mp he]; exact ⟨hh, z, rest, rfl, hc, hg⟩
    · rw [tk, steps_snoc, Bool.or_eq_true, en, hz]
      constructor
      · rintro (⟨e, he, ho⟩ | h)
        · exact ⟨e, List.mem_append_left _ he, ho⟩
        · exact ⟨_, List.mem_append_right _ (List.mem_singleton.mpr rfl), hh, z, rest, rfl, h⟩
      · rintro ⟨e, he, h2, z2, rest2, ee, hn⟩
        rcases List.mem_append.mp he with he | he
        · exact .inl ⟨e, he, h2, z2, rest2, ee, hn⟩
        · have ee2 := List.mem_singleton.mp he
          rw [ee2] at ee
          have := D.tup.inj ee
          have : (D.str z) = .str z2 := (List.cons.inj (List.cons.inj this).2).1
          cases this
          exact .inr hn
  · have e : i = l.length := by omega
    subst e
    rw [List.take_length] at sa2 g2 en
    refine .inl ⟨⟨xs, hq', by omega⟩, ?_⟩
    have fin : EvP K _ [some (stD cw m (K70.steps (crewP cw m) l st).1), some (.tup (iD l)), some (.int 400), o3, some (.lst evs), o5] (fun d => d = .tup [stD cw m (K70.steps (crewP cw m) l st).1, .tup evs]) := (ev_tup (eva_cons (ev_var (i := 0) rfl) (eva_cons (ev_cb (eva_cons (ev_var (i := 4) rfl) eva_nil) rc_tuple) eva_nil)) (sz5 (Nat.le_of_ble_eq_true rfl))).p
    have sa4 : SA K H' σ' [some (stD cw m (K70.steps (crewP cw m) l st).1), some (.tup (iD l)), some (.int 400), o3, some (.lst evs), o5] := by
      refine ⟨sa2.len, fun j d hj => ?_⟩
      match j with
      | 0 => exact sa2.at_ 0 d hj
      | 1 => exact sa2.at_ 1 d hj
      | 2 => exact sa2.at_ 2 d hj
      | 3 => exact sa2.at_ 3 d hj
      | 4 =>
        have : some (D.lst evs) = some d := Option.some.inj hj
        rw [← Option.some.inj this]
        obtain ⟨v, ev, av⟩ := sa2.at_ 4 _ rfl
        exact ⟨v, ev, L, acc, av, SqL.of hacc, ale⟩
      | 5 => exact sa2.at_ 5 d hj
      | k + 6 => cases hj
    exact fin σ' H' sa4 _ fun v5 H5 d5 p5 e5 a5 => r d5 v5 H5 ⟨evs, p5, el, eo, en⟩ (e2.trans e5) a5
end
end Wk
set_option Elab.async false
set_option linter.all false
set_option maxRecDepth 100000
set_option maxHeartbeats 2000000
/-! quiet, begun, bounds -/
namespace Wk
open PySem PySem.Spec PyProof.Rows L2
section
variable {X : Cx} {CX : CXT} {k : Nat} {f : Addr} {fd : FuncData} {ps ks : List Str} {sp : Sp} {E : XK} {x : Str} {p pos : Pos} {kws : List Keyword} {tk : TA} {g : List Value → List Value → List Value} {gV : List V → List V → List V}
def tCallN0 (m : Nat) (sp : Sp) (gV : List V → List V → List V) (E : XK) (tk : TA) : TE := fun σ H Q => tk σ H fun zs H2 => zs.length = m ∧ sp (gV [] zs) H2 Q E
/-- f(k = v, ..) -/
theorem pe_callN0 (F : FnOk X.prog X.w X.K X.mg X.base CX k f fd ps sp) (hr : Room k X.A) (hg : Gl X x) (hm : X.mg x = some (.ref f)) (hk : PySem.W.keepIn X.K (.ref f) = true) (hb : KBn X.K fd ps 0 ks g gV) (hx : Passes CX X E)
    (hkw : PK X kws tk) (hall : (backToKw pos (keywordEach kws X.env)).all (·.1.isSome) = true := by rfl) (hks : (backToKw pos (keywordEach kws X.env)).filterMap (·.1) = ks := by rfl)
    (hdb : (x == ("__debug__" : Str)) = false := by decide)
    (hpl : ((backTo pos (starEach [] X.env)).any (·.1) || (backToKw pos (keywordEach kws X.env)).any (·.1.isNone)) = false := by rfl) :
    PE X (.Call (.Name x p) [] kws pos) (tCallN0 ks.length sp gV E tk) := by
  refine ⟨fun pins s σ H Q I h => ?_⟩
  refine wpAny_Call_Name_kw (ld_glob I hg hm ?_ hdb)
  refine PySem.W.callWith_KW0 (h₀ := X.base) I.ok.mod.kin hk hall ?_ hpl
  refine thn (hkw.run pos pins s σ H _ I h) fun ws s2 ⟨zs, H2, I2, rz, l2, q2⟩ => ⟨I2.kIn, ?_⟩
  rw [hks]
  exact run_fnN (vs := []) (us := []) F hr hb hx I2 .nil rz rfl l2 q2
end
section
variable {P : Program} {w : World} {K : PySem.W.Frag} {mg : Str → Option Value} {base : Heap}
local macro_rules | `(tactic| walk_at "nf") => `(tactic| refine q_nf (by simp only [List.map_cons, List.map_nil, List.cons_append, List.nil_append, List.length_cons, List.length_nil, List.replicate_succ, List.replicate_zero, List.set_cons_succ, List.set_cons_zero, Nat.reduceAdd, Nat.reduceSub, N_is_quiet, N_begun, N_stays_of, N_rounds, N__law_rounds]; exact rfl) ?_)
def rot3 (us ws : List α) : List α := match ws with | [a, b, c] => [b, c, a] | _ => []
theorem kb_rounds {f : Addr} {fd : FuncData} (F : Fun K "rounds" "rounds" s_rounds f fd) : KBn K fd ["cells", "hands", "pacts"] 0 ["pacts", "cells", "hands"] (fun us ws => rot3 us ws) (fun vs zs => rot3 vs zs) := by
  obtain ⟨oc, od, kV, doc, pm, an, cdv, ct, osl, rfl, lk, hcd⟩ := F.ex
  refine ⟨fun s us ws _ l1 l2 => ?_, fun r1 r2 => ?_⟩
  · match us, ws, l1, l2 with
    | [], [_, _, _], _, _ => exact .of_eq rfl
  · cases r2 with
    | nil => exact .nil
    | cons a r2 => cases r2 with
      | nil => exact .nil
      | cons b r2 => cases r2 with
        | nil => exact .nil
        | cons c r2 => cases r2 with
          | nil => exact .cons b (.cons c (.cons a .nil))
          | cons d r2 => exact .nil
theorem evp_callN0 {Γ : Gm} {tk : TA} {d1 d2 d3 : D} {R : List D → (D → Prop) → Prop} {Pp : D → Prop} {E : XK} (h : EvA K tk Γ [d1, d2, d3]) (r : R [d2, d3, d1] Pp) : EvP K (tCallN0 3 (spD K R) (fun vs zs => rot3 vs zs) E tk) Γ Pp := fun σ H sa Q q =>
  h σ H sa _ fun vs H1 e1 a1 => by
    obtain ⟨v1, r1, ev1, a1, v2, r2, ev2, a2, v3, r3, ev3, a3, ev4⟩ := a1
    rw [show r3 = [] from ev4] at ev3
    subst ev3 ev2 ev1
    exact ⟨rfl, [d2, d3, d1], Pp, r, ⟨v2, _, rfl, a2, v3, _, rfl, a3, v1, [], rfl, a1, rfl⟩, fun v H2 d p e2 a2 => q v H2 d p (e1.trans e2) a2⟩
/-- for over range(n) -/
theorem q_forR {ta : TA} {tb : TS} {g : TG} {Γ : Gm} {nx : Gm → Prop} {rt : D → Prop} {n : Nat} (I : Nat → Gm → Prop) (hl : EvA K ta Γ [.int (n : Int)]) (hz : n ≤ 100000) (h0 : I 0 Γ)
    (hs : ∀ i Γ, i < n → I i Γ → GD K g (.int (i : Int)) Γ (fun Γ' => QS K tb Γ' (I (i + 1)) rt)) (hd : ∀ Γ, I n Γ → nx Γ) : QS K (tFor (iRng1 ta) g tb) Γ nx rt := fun σ H E sa nn r =>
  hl σ H sa _ fun us H1 e1 a1 => by
    obtain ⟨x, r0, ex, ax, er⟩ := a1
    rw [show r0 = [] from er, show x = .int (n : Int) from ax] at ex
    refine ⟨(n : Int), ex, by omega, by omega, fun i m σ' H' => m = n - i ∧ i ≤ n ∧ Same H1 H' ∧ ∃ Γ', I i Γ' ∧ SA K H' σ' Γ', ⟨n, by simp, Nat.zero_le _, Same.refl _, Γ, h0, sa.mono e1⟩, ?_⟩
    rintro i m σ' H' ⟨rfl, hi, e2, Γ', hI, sa'⟩
    rw [Int.toNat_natCast]
    by_cases hlt : i < n
    · refine .inr ⟨hlt, fun σ2 H2 => Same H1 H2 ∧ ∃ Γ2, I (i + 1) Γ2 ∧ SA K H2 σ2 Γ2, fun σ2 H2 ⟨e3, Γ2, i2, s2⟩ => ⟨n - (i + 1), by omega, rfl, hlt, e3, Γ2, i2, s2⟩, fun x H3 y => ?_⟩
      obtain ⟨eH, y⟩ := y
      subst eH
      refine hs i Γ' hlt hI x σ' H3 _ sa' (by rw [y, Int.zero_add]; rfl) fun Γ2 σ2 H2 q2 e3 sa2 => ?_
      refine q2 σ2 H2 _ sa2 (fun Γ3 σ3 H4 i3 e4 sa3 => ⟨(e2.trans e3).trans e4, Γ3, i3, sa3⟩) fun d v H4 a e4 c => r d v H4 a (((e1.trans e2).trans e3).trans e4) c
    · have e : i = n := by omega
      subst e
      exact .inl ⟨Nat.le_refl _, nn Γ' σ' H' (hd Γ' hI) (e1.trans e2) sa'⟩
theorem cmR {i j : Int} (h1 : 0 ≤ j) (h2 : j ≤ 1000000) : CMul i j := .inr ⟨by omega, by omega⟩
theorem cmL {i j : Int} (h1 : 0 ≤ i) (h2 : i ≤ 1000000) : CMul i j := .inl ⟨by omega, by omega⟩
theorem pow_ok {m H : Nat} (hm : m ≤ 3) (hH : H ≤ 3) : 2 * (m + 2) ^ H ≤ 250 := by
  have a : m = 0 ∨ m = 1 ∨ m = 2 ∨ m = 3 := by omega
  have b : H = 0 ∨ H = 1 ∨ H = 2 ∨ H = 3 := by omega
  rcases a with rfl | rfl | rfl | rfl <;> rcases b with rfl | rfl | rfl | rfl <;> decide
def R_lrounds (ds : List D) (Q : D → Prop) : Prop := ∃ m H t : Nat, ds = [.int (m : Int), .int (H : Int), .int (t : Int)] ∧ m ≤ 3 ∧ H ≤ 3 ∧ t ≤ 1000 ∧ Q = fun d => d = .int (K70.bnd m H t : Int)
theorem ok_lrounds (T : Txt K w mg) : FnOk P w K mg base CX0 1 T.d__law_rounds.f T.d__law_rounds.fd ["_law_m", "_law_crowd", "_law_tasks"] (spD K R_lrounds) := by
  refine fn_data T.d__law_rounds.F sc__law_rounds (fun ds Q h => by obtain ⟨_, _, _, rfl, _⟩ := h; rfl) fun cdv A outer s H0 E hr => ?_
  refine ⟨_, (pss_cons (ps_set (i := 3) sc__law_rounds.nd rfl (Or.inl rfl) pe_int)
    (pss_cons (ps_for PassesOwn.never rfl (pi_range1 rfl T.z_range (pa_cons (pv 1) pa_nil)) (pg_name (i := 4) sc__law_rounds.nd rfl (Or.inl rfl)) (pss_one (ps_set (i := 3) sc__law_rounds.nd rfl (Or.inl rfl) (pe_op op_mul (pv 3) (pe_op op_add (pv 0) pe_int)))))
    (pss_one (ps_ret (pe_op op_mul (pe_op op_add (pv 2) pe_int) (pe_op op_add (pe_op op_mul (pe_op op_add (pe_op op_add (pv 3) (pe_op op_mul pe_int (pv 1))) pe_int) (pe_op op_add (pe_op op_mul pe_int (pv 0)) pe_int)) (pv 0))))))), fun ds Q h => ?_⟩
  obtain ⟨m, H, t, rfl, hm, hH, ht, rfl⟩ := h
  walk_at "nf"
  refine q_seq (q_set (d := .int ((2 * (m + 2) ^ 0 : Nat) : Int)) (ev_int) ?_)
  walk_at "nf"
  refine q_seq (q_forR (fun i Γ => ∃ o : Option D, Γ = [some (.int (m : Int)), some (.int (H : Int)), some (.int (t : Int)), some (.int ((2 * (m + 2) ^ i : Nat) : Int)), o]) (n := H) (eva_cons (ev_var rfl) eva_nil) (by omega) ⟨_, rfl⟩ ?_ ?_)
  · rintro i Γ hi ⟨o, rfl⟩
    refine gd_name (q_set (d := .int ((2 * (m + 2) ^ (i + 1) : Nat) : Int)) ?_ ⟨_, rfl⟩)
    refine (ev_op (d2 := .int ((m : Int) + 2)) (ev_var rfl) (ev_op (ev_var rfl) ev_int rd_int) (rd_I (c := CMul) (g := fun i j => i * j) (cmR (by omega) (by omega)))).eq ?_
    congr 1
    rw [Nat.pow_succ]
    push_cast
    rw [Int.mul_assoc, show (m : Int) + 2 = m + 1 + 1 by omega]
  · rintro Γ ⟨o, rfl⟩
    have hp := pow_ok hm hH
    refine q_retD (d := .int (K70.bnd m H t : Int)) ?_ rfl
    unfold K70.bnd
    generalize 2 * (m + 2) ^ H = S at hp ⊢
    have g1 : EvA K tNil [some (D.int (m : Int))] [] := eva_nil
    refine (ev_op (d1 := .int ((t : Int) + 1)) (d2 := .int (((S : Int) + 3 * H + 1) * (4 * m + 3) + m)) (ev_op (ev_var rfl) ev_int rd_int) (ev_op (d1 := .int (((S : Int) + 3 * H + 1) * (4 * m + 3))) (ev_op (d1 := .int ((S : Int) + 3 * H + 1)) (d2 := .int (4 * (m : Int) + 3)) (ev_op (ev_op (ev_var rfl) (ev_op ev_int (ev_var rfl) (rd_I (c := CMul) (g := fun i j => i * j) (cmL (by decide) (by decide)))) rd_int) ev_int rd_int) (ev_op (ev_op ev_int (ev_var rfl) (rd_I (c := CMul) (g := fun i j => i * j) (cmL (by decide) (by decide)))) ev_int rd_int) (rd_I (c := CMul) (g := fun i j => i * j) (cmR (by omega) (by omega)))) (ev_var rfl) rd_int) (rd_I (c := CMul) (g := fun i j => i * j) (cmL (by omega) (by omega)))).eq ?_
    push_cast
    rfl
def R_stays (ds : List D) (Q : D → Prop) : Prop := ∃ m H : Nat, ds = [.int (m : Int), .int (H : Int)] ∧ m ≤ 3 ∧ H ≤ 3 ∧ Q = fun d => d = .int ((2 * (m + 2) ^ H + 3 * H + 1 : Nat) : Int)
theorem ok_stays_of (T : Txt K w mg) : FnOk P w K mg base CX0 1 T.d_stays_of.f T.d_stays_of.fd ["cells", "hands"] (spD K R_stays) := by
  refine fn_data T.d_stays_of.F sc_stays_of (fun ds Q h => by obtain ⟨_, _, rfl, _⟩ := h; rfl) fun cdv A outer s H0 E hr => ?_
  refine ⟨_, (pss_cons (ps_set (i := 2) sc_stays_of.nd rfl (Or.inl rfl) pe_int)
    (pss_cons (ps_for PassesOwn.never rfl (pi_range1 rfl T.z_range (pa_cons (pv 1) pa_nil)) (pg_name (i := 3) sc_stays_of.nd rfl (Or.inl rfl)) (pss_one (ps_set (i := 2) sc_stays_of.nd rfl (Or.inl rfl) (pe_op op_mul (pv 2) (pe_op op_add (pv 0) pe_int)))))
    (pss_one (ps_ret (pe_op op_add (pe_op op_add (pv 2) (pe_op op_mul pe_int (pv 1))) pe_int))))), fun ds Q h => ?_⟩
  obtain ⟨m, H, rfl, hm, hH, rfl⟩ := h
  walk_at "nf"
  refine q_seq (q_set (d := .int ((2 * (m + 2) ^ 0 : Nat) : Int)) (ev_int) ?_)
  walk_at "nf"
  refine q_seq (q_forR (fun i Γ => ∃ o : Option D, Γ = [some (.int (m : Int)), some (.int (H : Int)), some (.int ((2 * (m + 2) ^ i : Nat) : Int)), o]) (n := H) (eva_cons (ev_var rfl) eva_nil) (by omega) ⟨_, rfl⟩ ?_ ?_)
  · rintro i Γ hi ⟨o, rfl⟩
    refine gd_name (q_set (d := .int ((2 * (m + 2) ^ (i + 1) : Nat) : Int)) ?_ ⟨_, rfl⟩)
    refine (ev_op (d2 := .int ((m : Int) + 2)) (ev_var rfl) (ev_op (ev_var rfl) ev_int rd_int) (rd_I (c := CMul) (g := fun i j => i * j) (cmR (by omega) (by omega)))).eq ?_
    congr 1
    rw [Nat.pow_succ]
    push_cast
    rw [Int.mul_assoc, show (m : Int) + 2 = m + 1 + 1 by omega]
  · rintro Γ ⟨o, rfl⟩
    refine q_retD (d := .int ((2 * (m + 2) ^ H + 3 * H + 1 : Nat) : Int)) ?_ rfl
    generalize 2 * (m + 2) ^ H = S
    refine (ev_op (ev_op (ev_var rfl) (ev_op ev_int (ev_var rfl) (rd_I (c := CMul) (g := fun i j => i * j) (cmL (by decide) (by decide)))) rd_int) ev_int rd_int).eq ?_
    push_cast
    rfl
def R_rounds (ds : List D) (Q : D → Prop) : Prop := ∃ m H t : Nat, ds = [.int (m : Int), .int (H : Int), .int (t : Int)] ∧ m ≤ 3 ∧ H ≤ 3 ∧ t ≤ 1000 ∧ Q = fun d => d = .int (K70.bnd m H t : Int)
theorem ok_rounds (T : Txt K w mg) : FnOk P w K mg base CX0 2 T.d_rounds.f T.d_rounds.fd ["cells", "hands", "pacts"] (spD K R_rounds) := by
  have G_stays_of := ok_stays_of (P := P) (base := base) T
  refine fn_data T.d_rounds.F sc_rounds (fun ds Q h => by obtain ⟨_, _, _, rfl, _⟩ := h; rfl) fun cdv A outer s H0 E hr => ?_
  refine ⟨_, (pss_cons (ps_set (i := 3) sc_rounds.nd rfl (Or.inl rfl) (pe_call G_stays_of (hr.mono (by first | decide | omega)) rfl T.d_stays_of.m T.d_stays_of.kp (b_stays_of T.d_stays_of.F) .nil pass0 (pa_cons (pv 0) (pa_cons (pv 1) pa_nil))))
    (pss_one (ps_ret (pe_op op_mul (pe_op op_add (pv 2) pe_int) (pe_op op_add (pe_op op_mul (pv 3) (pe_op op_add (pe_op op_mul pe_int (pv 0)) pe_int)) (pv 0)))))), fun ds Q h => ?_⟩
  obtain ⟨m, H, t, rfl, hm, hH, ht, rfl⟩ := h
  walk_at "nf"
  refine q_seq (q_set (d := .int ((2 * (m + 2) ^ H + 3 * H + 1 : Nat) : Int)) (ev_call (eva_cons (ev_var rfl) (eva_cons (ev_var rfl) eva_nil)) ⟨m, H, rfl, hm, hH, rfl⟩ fun _ e => e) ?_)
  walk_at "nf"
  refine q_retD (d := .int (K70.bnd m H t : Int)) ?_ rfl
  unfold K70.bnd
  generalize 2 * (m + 2) ^ H + 3 * H + 1 = S
  refine (ev_op (d1 := .int ((t : Int) + 1)) (d2 := .int ((S : Int) * (4 * m + 3) + m)) (ev_op (ev_var rfl) ev_int rd_int) (ev_op (d1 := .int ((S : Int) * (4 * m + 3))) (ev_op (d2 := .int (4 * (m : Int) + 3)) (ev_var rfl) (ev_op (ev_op ev_int (ev_var rfl) (rd_I (c := CMul) (g := fun i j => i * j) (cmL (by decide) (by decide)))) ev_int rd_int) (rd_I (c := CMul) (g := fun i j => i * j) (cmR (by omega) (by omega)))) (ev_var rfl) rd_int) (rd_I (c := CMul) (g := fun i j => i * j) (cmL (by omega) (by omega)))).eq ?_
  push_cast
  rfl
end
end Wk
set_option Elab.async false
set_option linter.all false
set_option maxRecDepth 100000
set_option maxHeartbeats 2000000
/-! quiet, begun, the tap -/
namespace Wk
open PySem PySem.Spec PyProof.Rows L2
section
variable {P : Program} {w : World} {K : PySem.W.Frag} {mg : Str → Option Value} {base : Heap}
local macro_rules | `(tactic| walk_at "nf") => `(tactic| refine q_nf (by simp only [List.map_cons, List.map_nil, List.cons_append, List.nil_append, List.length_cons, List.length_nil, List.replicate_succ, List.replicate_zero, List.set_cons_succ, List.set_cons_zero, Nat.reduceAdd, Nat.reduceSub, N_is_quiet, N_begun, N_stays_of, N_rounds, N__law_rounds]; exact rfl) ?_)
theorem ph_rest {r : K70.Row} : inV (.str (phS r)) [.str "through", .str "stopped", .str "sleeps"] = K70.restRow r := by
  have a : inV (.str "new") [.str "through", .str "stopped", .str "sleeps"] = false := by decide +kernel
  have b : inV (.str "walks") [.str "through", .str "stopped", .str "sleeps"] = false := by decide +kernel
  have c : inV (.str "locks") [.str "through", .str "stopped", .str "sleeps"] = false := by decide +kernel
  have d : inV (.str "checks") [.str "through", .str "stopped", .str "sleeps"] = false := by decide +kernel
  have e : inV (.str "backs") [.str "through", .str "stopped", .str "sleeps"] = false := by decide +kernel
  have f : inV (.str "sleeps") [.str "through", .str "stopped", .str "sleeps"] = true := by decide +kernel
  have g : inV (.str "through") [.str "through", .str "stopped", .str "sleeps"] = true := by decide +kernel
  cases r
  · exact a
  · exact b
  · exact c
  · exact d
  · exact e
  · exact f
  · exact g
def R_is_quiet (ds : List D) (Q : D → Prop) : Prop := ∃ (cw : Crew) (m : Nat) (s : K70.S), ds = [stD cw m s] ∧ Sz cw m ∧ Q = fun d => d = .bl ((List.range cw.length).all fun i => K70.restRow (s.rows i))
theorem ok_is_quiet (T : Txt K w mg) : FnOk P w K mg base CX0 1 T.d_is_quiet.f T.d_is_quiet.fd ["state"] (spD K R_is_quiet) := by
  refine fn_data T.d_is_quiet.F sc_is_quiet (fun ds Q h => by obtain ⟨_, _, _, rfl, _⟩ := h; rfl) fun cdv A outer s H E hr => ?_
  refine ⟨_, (pss_one (ps_ret (pe_callB (cr_all rfl) (by rfl) T.z_all (by decide +kernel) (pa_cons (pe_lc (own := [("row", 1)]) (g := (gName 1)) (tt := tYes) (te := (tOp (rIn K false) (tOp (rIx K) (tVar 1) (tC (.int 1))) (tC (.ref T.a_RESTING)))) rfl sc_is_quiet.nd (pi_tup (pe_ix ix_seq (pv 0) pe_int (fun _ _ => rfl))) (blkOk_by (N := N_is_quiet) (sc := defScope s_is_quiet) (by decide +kernel)) (fun _ _ _ _ _ => (pg_name (i := 1) sc_is_quiet.nd rfl (Or.inl rfl) (.inr rfl))) (fun _ _ _ _ _ => pts_nil) (fun _ _ _ _ _ => (pe_cmpR op_in_seq (pe_ix ix_seq (pv 1) pe_int (fun _ _ => rfl)) (pe_globE rfl T.g_RESTING) (by rfl)))) pa_nil)))), fun ds Q h => ?_⟩
  obtain ⟨cw, m, st, rfl, sz, rfl⟩ := h
  have szh := sz.h
  walk_at "nf"
  refine q_retD (d := .bl ((List.range cw.length).all fun i => K70.restRow (st.rows i))) ?_ rfl
  refine (ev_cb (eva_cons (d := .lst (((List.range cw.length).map fun i => K70.restRow (st.rows i)).map .bl)) ((ev_lcTm (f := fun i => rowD (st.rows i)) (fun i => .bl (K70.restRow (st.rows i))) (ev_ix (ev_var rfl) (by decide) rfl) (by omega) fun i hi => lc_keep rfl (gw_name (by decide) ?_)).eq (by rw [List.map_map]; rfl)) eva_nil) rc_all).eq (by rw [List.all_map]; rfl)
  exact (ev_op (d1 := .str (phS (st.rows i))) (ev_ix (ds := rowL (st.rows i)) (ev_var rfl) (by decide) rfl) ev_ref (rd_inK T.rest rfl rfl (by decide +kernel))).eq (by rw [ph_rest])
def R_begun (ds : List D) (Q : D → Prop) : Prop := ∃ (nums : List Int) (cw : Crew), ds = [.tup (nums.map .int), .tup (handsL cw)] ∧ nums.length ≤ 1000 ∧ cw.length ≤ 1000 ∧ Q = fun d => d = stD cw nums.length (K70.begun (crewP cw nums.length) fun c => nums.getD c 0)
theorem ok_begun (T : Txt K w mg) : FnOk P w K mg base CX0 2 T.d_begun.f T.d_begun.fd ["cells", "hands"] (spD K R_begun) := by
  have G_row_new := ok_row_new (P := P) (base := base) T
  refine fn_data T.d_begun.F sc_begun (fun ds Q h => by obtain ⟨_, _, rfl, _⟩ := h; rfl) fun cdv A outer s H E hr => ?_
  refine ⟨_, (pss_cons (ps_set (i := 2) sc_begun.nd rfl (Or.inl rfl) (pe_callTy call_tuple_of (by rfl) T.z_tuple (by decide +kernel) (pa_cons (pe_lc (own := [("number", 3)]) (g := (gName 3)) (tt := tYes) (te := (tTup (tCons (tVar 3) (tCons (tC (.int 0)) (tCons (tC .non) tNil))))) rfl sc_begun.nd (pi_tup (pv 0)) (blkOk_by (N := N_begun) (sc := defScope s_begun) (by decide +kernel)) (fun _ _ _ _ _ => (pg_name (i := 3) sc_begun.nd rfl (Or.inl rfl) (.inr rfl))) (fun _ _ _ _ _ => pts_nil) (fun _ _ _ _ _ => (pe_tup (pa_cons (pv 3) (pa_cons pe_int (pa_cons pe_non pa_nil)))))) pa_nil)))
    (pss_one (ps_ret (pe_tup (pa_cons (pv 1) (pa_cons pe_int (pa_cons pe_int (pa_cons (pv 2) (pa_cons (pe_callTy call_tuple_of (by rfl) T.z_tuple (by decide +kernel) (pa_cons (pe_lc (own := [("programs", 4)]) (g := (gName 4)) (tt := tYes) (te := (tCall (spD K R_row_new) [] E0 (tCons (tVar 4) (tCons (tC (.int 0)) (tCons (tC .non) tNil))))) rfl sc_begun.nd (pi_tup (pv 1)) (blkOk_by (N := N_begun) (sc := defScope s_begun) (by decide +kernel)) (fun _ _ _ _ _ => (pg_name (i := 4) sc_begun.nd rfl (Or.inl rfl) (.inr rfl))) (fun _ _ _ _ _ => pts_nil) (fun _ _ _ _ _ => (pe_call G_row_new (hr.mono (by first | decide | omega)) rfl T.d_row_new.m T.d_row_new.kp (b_row_new T.d_row_new.F) .nil pass0 (pa_cons (pv 4) (pa_cons pe_int (pa_cons pe_non pa_nil)))))) pa_nil)) pa_nil))))))))), fun ds Q h => ?_⟩
  obtain ⟨nums, cw, rfl, hn, hc, rfl⟩ := h
  walk_at "nf"
  refine q_seq (q_set (d := .tup (nums.filterMap fun i => some (D.tup [.int i, .int 0, .non]))) (ev_cb (eva_cons (ev_lcM (f := D.int) _ (ev_var rfl) (by omega) fun i hi => lc_keep rfl (gw_name (by decide) (ev_tup (eva_cons (ev_var rfl) (eva_cons ev_int (eva_cons ev_non eva_nil))) (sz5 (Nat.le_of_ble_eq_true rfl))))) eva_nil) rc_tuple) ?_)
  walk_at "nf"
  refine q_retD (d := stD cw nums.length (K70.begun (crewP cw nums.length) fun c => nums.getD c 0)) ?_ rfl
  refine (ev_tup (ds := [.tup (handsL cw), .int 0, .int 0, .tup (nums.filterMap fun i => some (D.tup [.int i, .int 0, .non])), .tup (cw.filterMap fun ps => some (rowD (K70.rowNew (ps.map pgD).length 0 none)))]) (eva_cons (ev_var rfl) (eva_cons ev_int (eva_cons ev_int (eva_cons (ev_var rfl) (eva_cons (ev_cb (eva_cons (ev_lcM (f := fun ps : List Pg => .tup (ps.map pgD)) _ (ev_var rfl) (by omega) fun ps hps => lc_keep ?_ (gw_name (by decide) ?_)) eva_nil) rc_tuple) eva_nil))))) (sz5 (Nat.le_of_ble_eq_true rfl))).eq ?_
  · unfold K70.rowNew; split <;> rfl
  · exact ev_call (eva_cons (ev_var rfl) (eva_cons (d := .int ((0 : Nat) : Int)) ev_int (eva_cons (d := optI none) ev_non eva_nil))) ⟨ps.map pgD, 0, none, rfl, rfl⟩ fun _ e => e
  · have e1 : nums.filterMap (fun i => some (D.tup [.int i, .int 0, .non])) = cellsL nums.length (K70.begun (crewP cw nums.length) fun c => nums.getD c 0).cells := by
      rw [show (fun i : Int => some (D.tup [.int i, .int 0, .non])) = some ∘ (fun i : Int => D.tup [.int i, .int 0, .non]) from rfl, List.filterMap_eq_map]
      unfold cellsL
      refine List.ext_getElem? fun j => ?_
      by_cases hj : j < nums.length
      · rw [List.getElem?_map, List.getElem?_eq_getElem hj, List.getElem?_map, List.getElem?_range hj]
        show some (D.tup [.int nums[j], .int 0, .non]) = some (D.tup [.int (nums.getD j 0), .int 0, .non])
        rw [List.getD_eq_getElem?_getD, List.getElem?_eq_getElem hj]; rfl
      · rw [List.getElem?_eq_none (by simp; omega), List.getElem?_eq_none (by simp; omega)]
    have e2 : cw.filterMap (fun ps => some (rowD (K70.rowNew (ps.map pgD).length 0 none))) = rowsL cw.length (K70.begun (crewP cw nums.length) fun c => nums.getD c 0).rows := by
      rw [show (fun ps : List Pg => some (rowD (K70.rowNew (ps.map pgD).length 0 none))) = some ∘ (fun ps : List Pg => rowD (K70.rowNew (ps.map pgD).length 0 none)) from rfl, List.filterMap_eq_map]
      unfold rowsL
      refine List.ext_getElem? fun j => ?_
      by_cases hj : j < cw.length
      · rw [List.getElem?_map, List.getElem?_eq_getElem hj, List.getElem?_map, List.getElem?_range hj]
        show some (rowD (K70.rowNew (cw[j].map pgD).length 0 none)) = some (rowD (K70.rowNew (cw.getD j []).length 0 none))
        rw [List.getD_eq_getElem?_getD, List.getElem?_eq_getElem hj, List.length_map]; rfl
      · rw [List.getElem?_eq_none (by simp; omega), List.getElem?_eq_none (by simp; omega)]
    rw [e1, e2]; rfl
theorem at_ints {H : Hp} : ∀ {l : List Int}, AtL K H (l.map D.int) (l.map V.int)
  | [] => rfl
  | i :: l => ⟨_, _, rfl, rfl, at_ints (l := l)⟩
/-- the tap: a new list of a copy of the script and three counts -/
def tapSp (K : PySem.W.Frag) : Sp := fun vs H Q _ => ∃ (s : Addr) (is : List Int), vs = [.ref s] ∧ SqL K H s (is.map V.int) ∧ ∀ p q H', H p = none → Same H H' → Tap p q 99000000 H' → Q (.ref p) H'
theorem ok_tap (T : Txt K w mg) : FnOk P w K mg base CX0 1 T.d__law_tap.f T.d__law_tap.fd ["_law_script"] (tapSp K) := by
  refine T.d__law_tap.F.ok sc__law_tap (fun vs H Q E h => by obtain ⟨s, is, rfl, _⟩ := h; rfl) (fun cdv A outer s H vs Q E hr h => ?_)
  obtain ⟨sc, is, rfl, hs, k⟩ := h
  refine ⟨_, (pss_one (ps_ret (pe_lst (pa_cons (pe_callTy call_list_of (by rfl) T.z_list (by decide +kernel) (pa_cons (pe_slice sl_list (pv 0) po_none (po_some pe_int)) pa_nil)) (pa_cons pe_int (pa_cons pe_int (pa_cons pe_int pa_nil))))))), ?_⟩
  have sa : SA K H (start N__law_tap [V.ref sc]) [some (.lst (is.map D.int))] := by
    refine ⟨rfl, fun i d hi => ?_⟩
    match i with
    | 0 =>
      have : some (D.lst (is.map D.int)) = some d := Option.some.inj hi
      rw [← Option.some.inj this]
      exact ⟨.ref sc, rfl, sc, _, rfl, hs, at_ints⟩
    | j + 1 => cases hi
  have cut : Ev K (tSl (rSlL K) (tVar 0) tNoPart (tPart (tC (.int 63)))) [some (.lst (is.map D.int))] (.lst ((is.map D.int).take 63)) := (ev_slL (ds := is.map D.int) (ev_var rfl) evo_none (evo_some (i := ((63 : Nat) : Int)) ev_int)).eq (by
    by_cases hl : (is.map D.int).length ≤ 63
    · rw [cut_big hl, List.take_of_length_le hl]
    · rw [cut_to (by omega)])
  refine cut _ H sa _ fun v1 H1 e1 a1 => ?_
  obtain ⟨r, ys, rfl, hy, al⟩ := a1
  rw [← List.map_take] at al
  have ey := AtL.ints al
  subst ey
  refine ⟨r, _, rfl, .inl hy, fun q hq => ?_⟩
  refine ⟨sz5 (Nat.le_of_ble_eq_true rfl), fun p hp => ?_⟩
  have s1 := Same.new (o := .lst ((is.take 63).map V.int)) hq
  have s2 := Same.new (o := .lst [.ref q, .int 0, .int 0, .int 0]) hp
  have pq : q ≠ p := by rintro rfl; rw [L2.upd_same] at hp; cases hp
  have hp0 : H p = none := by
    cases hh : H p with
    | none => rfl
    | some u => have := s1 _ _ (e1 _ _ hh); rw [this] at hp; cases hp
  exact k p q _ hp0 ((e1.trans s1).trans s2) ⟨0, 0, 0, is.take 63, L2.upd_same, by rw [L2.upd_ne pq]; exact L2.upd_same, by decide, by decide, by decide, by rw [List.length_take]; omega⟩
end
end Wk
set_option Elab.async false
set_option linter.all false
set_option maxRecDepth 100000
set_option maxHeartbeats 2000000
/-! the law -/
namespace Wk
open PySem PySem.Spec PyProof.Rows L2
section
variable {K : PySem.W.Frag} {p q : Addr} {Γ : Gm} {te : TE} {c b : Nat} {P : D → Prop} {nx : Gm → Nat → Prop} {rt : D → Nat → Prop} {i j : Nat}
theorem qt_asg2 (h : EvT K p q te Γ c P) (l : c ≤ b) (hn : ∀ d, P d → ∃ d1 d2, d = .tup [d1, d2] ∧ nx ((Γ.set i (some d1)).set j (some d2)) (b - c)) : QT K p q (tAsg te (gTup K 2 (gCons (gName i) (gCons (gName j) gNil)))) Γ b nx rt := fun σ H E sa g tp n r =>
  h b σ H l sa tp _ fun v H1 d pd nd e t a => by
    obtain ⟨d1, d2, rfl, hx⟩ := hn d pd
    obtain ⟨pa, xs, ev, hs, al⟩ := a
    have hl := AtL.len al
    obtain ⟨v1, r1, e1, a1, v2, r2, e2, a2, e3⟩ := al
    simp only [nl, nlL, Bool.and_eq_true] at nd
    exact ⟨pa, xs, ev, .inl hs, hl, v1, r1, e1, v2, r2, e2, e3, n _ _ _ H1 hx e (((sa.keep g (tp.keep e)).set a1).set a2) ((g.set nd.1).set nd.2.1) t⟩
theorem evp_callD {R : List D → (D → Prop) → Prop} {ds es : List D} {dvs : List V} {Pp : D → Prop} {t : TA} {E : XK} (h : EvA K t Γ ds) (hd : ∀ H, AtL K H es dvs) (hr : R (ds ++ es) Pp) : EvP K (tCall (spD K R) dvs E t) Γ Pp := fun σ H sa Q q =>
  h σ H sa _ fun vs H1 e1 a1 => ⟨ds ++ es, Pp, hr, AtL.append a1 (hd H1), fun v H2 d p e2 a2 => q v H2 d p (e1.trans e2) a2⟩
/-- a plain call whose arguments pick -/
theorem evt_callE {R : List D → (D → Prop) → Prop} {es : List D} {dvs : List V} {A : List D → Prop} {t : TA} {E : XK} (h : EvTA K p q t Γ c A) (hd : ∀ H, AtL K H es dvs) (hr : ∀ ds, A ds → ∃ Pd : D → Prop, R (ds ++ es) Pd ∧ ∀ d, Pd d → P d ∧ nl d = true) : EvT K p q (tCall (spD K R) dvs E t) Γ c P := fun b σ H lb sa tp Q k =>
  h b σ H lb sa tp _ fun vs H1 ds a nd e1 t1 a1 => by
    obtain ⟨Pd, r, hp⟩ := hr ds a
    exact ⟨ds ++ es, Pd, r, AtL.append a1 (hd H1), fun v H2 d pd e2 a2 => k v H2 d (hp d pd).1 (hp d pd).2 (e1.trans (SameS.of e2)) (t1.same e2) a2⟩
theorem rc_repr {i : Int} (h : i.natAbs.log2 < 1920) : RC K (fun xs H Q => ∃ i, xs = [V.int i] ∧ i.natAbs.log2 < 1920 ∧ Q (.str (toString i)) H) [.int i] (.str (toString i)) := fun vs H a Q q => by
  obtain ⟨x, r, e1, a1, e3⟩ := a
  rw [show r = [] from e3, show x = .int i from a1] at e1
  exact ⟨i, e1, h, q _ H (Same.refl H) rfl⟩
theorem evt_ofP {Pp : D → Prop} (h : EvP K te Γ Pp) (n : ∀ d, Pp d → nl d = true) : EvT K p q te Γ 0 Pp := fun b σ H _ sa tp Q k => h σ H sa Q fun v H' d pd e a => k v H' d pd (n d pd) (SameS.of e) (tp.same e) a
end
theorem qt_run {K : PySem.W.Frag} {p q : Addr} {t : TS} {Γ : Gm} {b : Nat} {E : Ends} {σ : L2.St} {H : Hp} (h : QT K p q t Γ b (fun _ _ => False) (fun d _ => d = .bl true)) (sa : SA K H σ Γ) (g : nlG Γ) (tp : Tap p q b H) (hr : ∀ H', E.rt (.bl true) H') : t E σ H :=
  h σ H E sa g tp (fun _ _ _ _ f => f.elim) fun d v b' H' e _ _ _ a => by
    subst e
    rw [show v = .bl true from a]
    exact hr H'
theorem nx_of {t : TS} {E : Ends} {σ : L2.St} {H : Hp} (h : t E σ H) : Ends.nx { E with nx := t E } σ H := h
theorem nats_of {n : Nat} : ∀ {ds : List D}, (∀ d ∈ ds, ∃ i : Nat, i < n ∧ d = .int (i : Int)) → ∃ l : List Nat, ds = iD l ∧ ∀ i ∈ l, i < n
  | [], _ => ⟨[], rfl, by simp⟩
  | d :: ds, h => by
    obtain ⟨i, hi, rfl⟩ := h d List.mem_cons_self
    obtain ⟨l, rfl, hl⟩ := nats_of (ds := ds) fun x hx => h x (List.mem_cons_of_mem _ hx)
    exact ⟨i :: l, rfl, fun x hx => (List.mem_cons.mp hx).elim (fun e => e ▸ hi) (hl x)⟩
theorem iV_of {K : PySem.W.Frag} {H : Hp} : ∀ {l : List Nat} {vs : List V}, AtL K H (iD l) vs → vs = iV l
  | [], _, h => h
  | i :: l, _, h => by
    obtain ⟨x, r, e1, a1, a2⟩ := h
    rw [e1, show x = .int (i : Int) from a1, iV_of a2]; rfl
theorem sum_take (cw : Crew) : ∀ n, n ≤ cw.length → ((cw.take n).map fun ps => (ps.length : Int)).sum = ((K70.sumN n fun h => (cw.getD h []).length : Nat) : Int)
  | 0, _ => rfl
  | n + 1, h => by
    rw [List.take_add_one, List.getElem?_eq_getElem (by omega), List.map_append, List.sum_append, sum_take cw n (by omega)]
    show _ + ((cw[n].length : Int) + 0) = ((K70.sumN n _ + (cw.getD n []).length : Nat) : Int)
    rw [List.getD_eq_getElem?_getD (l := cw) (i := n), List.getElem?_eq_getElem (by omega)]
    show _ + ((cw[n].length : Int) + 0) = ((K70.sumN n _ + cw[n].length : Nat) : Int)
    omega
theorem sum_len (cw : Crew) : (cw.map fun ps => (ps.length : Int)).sum = ((K70.sumN cw.length fun h => (cw.getD h []).length : Nat) : Int) := by
  have := sum_take cw cw.length (Nat.le_refl _)
  rwa [List.take_length] at this
theorem tk_le {nums : List Int} {cw : Crew} (ok : ∀ ps ∈ cw, ps.length ≤ 2) : ∀ n, n ≤ cw.length → K70.sumN n (fun h => (cw.getD h []).length) ≤ 2 * n
  | 0, _ => Nat.le_refl _
  | n + 1, h => by
    have ih := tk_le (nums := nums) ok n (by omega)
    show K70.sumN n _ + (cw.getD n []).length ≤ _
    rw [List.getD_eq_getElem?_getD, List.getElem?_eq_getElem (by omega)]
    have : cw[n].length ≤ 2 := ok _ (List.getElem_mem _)
    show K70.sumN n _ + cw[n].length ≤ _
    omega
theorem nl_hands {cw : Crew} : nlL (handsL cw) = true := nlL_of fun d hd => by
  obtain ⟨ps, _, rfl⟩ := List.mem_map.mp hd
  exact nlL_of fun d hd => by obtain ⟨p, _, rfl⟩ := List.mem_map.mp hd; exact nl_pg
theorem nl_evs {evs : List D} (h : ∀ e ∈ evs, evOk e) : nlL evs = true := nlL_of fun e he => ev_nl (h e he)
theorem bnd_big {m H t : Nat} (hm : m ≤ 3) (hH : H ≤ 3) (ht : t ≤ 6) : K70.bnd m H t ≤ 40000 := by
  have hp := pow_ok hm hH
  unfold K70.bnd
  generalize 2 * (m + 2) ^ H = S at hp ⊢
  have h1 : (S + 3 * H + 1) * (4 * m + 3) ≤ 260 * 15 := Nat.mul_le_mul (by omega) (by omega)
  have h2 : (t + 1) * ((S + 3 * H + 1) * (4 * m + 3) + m) ≤ 7 * (260 * 15 + 3) := Nat.mul_le_mul (by omega) (by omega)
  omega
def onB : D → Bool
  | .tup (_ :: .str z :: _) => !inV (.str z) [.str "waits", .str "rests"]
  | _ => false
def gW (a p r0 : Addr) (nums : List Int) (cw : Crew) (tk most : Nat) (s : K70.S) (evs : List D) (n : Nat) : Gm :=
  [some (.ref a), some (.ref p), some (.tup (nums.map .int)), some (.tup (handsL cw)), some (.ref r0), some (stD cw nums.length s), some (.tup evs), some (.int (tk : Int)), some (.int (nums.length : Int)), some (.int (cw.length : Int)), some (.int (most : Int)), some (.int (n : Int)), none, none, none, none, none, none]
section
variable {P : Program} {w : World} {K : PySem.W.Frag} {mg : Str → Option Value} {base : Heap}
local macro_rules | `(tactic| walk_at "nt") => `(tactic| refine qt_nf (by simp only [List.map_cons, List.map_nil, List.cons_append, List.nil_append, List.length_cons, List.length_nil, List.replicate_succ, List.replicate_zero, List.set_cons_succ, List.set_cons_zero, Nat.reduceAdd, Nat.reduceSub, N_law]; exact rfl) ?_)
local macro_rules | `(tactic| walk_at "nl") => `(tactic| exact nlG_of (by simp [nlGb, nl, nlL, nl_ints, nl_hands, nl_st]))
def spLaw (K : PySem.W.Frag) : Sp := fun vs H Q _ => ∃ (a : Addr) (ns : List Int), vs = [.ref a] ∧ SqL K H a (ns.map V.int) ∧ ns.length ≤ 63 ∧ ∀ H', Q (.bl true) H'
theorem ok_law (T : Txt K w mg) {u : Value} (hbr : RelV (.int 400) u ∧ Binds K T.d_run.fd ["state", "schedule", "most"] [u]) : FnOk P w K mg base CX0 24 T.d_law.f T.d_law.fd ["_law_script"] (spLaw K) := by
  have G__law_tap := ok_tap (P := P) (base := base) T
  have G__law_small := ok_small (P := P) (base := base) T
  have G__law_pick := ok_pick (P := P) (base := base) T
  have G__law_order := ok_order (P := P) (base := base) T
  have G__law_rounds := ok_lrounds (P := P) (base := base) T
  have G_rounds := ok_rounds (P := P) (base := base) T
  have G_is_quiet := ok_is_quiet (P := P) (base := base) T
  have G_begun := ok_begun (P := P) (base := base) T
  have G_run := ok_run (P := P) (base := base) T
  refine T.d_law.F.ok sc_law (fun vs H Q E h => by obtain ⟨a, ns, rfl, _⟩ := h; rfl) (fun cdv A outer s H vs Q E hr h => ?_)
  obtain ⟨a, ns, rfl, hs, hn, k⟩ := h
  refine ⟨_, (pss_cons (ps_set (i := 1) sc_law.nd rfl (Or.inr rfl) (pe_call G__law_tap (hr.mono (by first | decide | omega)) rfl T.d__law_tap.m T.d__law_tap.kp (b__law_tap T.d__law_tap.F) .nil pass0 (pa_cons (pv 0) pa_nil)))
    (pss_cons (ps_asg (pe_call G__law_small (hr.mono (by first | decide | omega)) rfl T.d__law_small.m T.d__law_small.kp (b__law_small T.d__law_small.F) .nil pass0 (pa_cons (pv 1) pa_nil)) (pg_tup rfl (pgs_cons (pg_name (i := 2) sc_law.nd rfl (Or.inl rfl)) (pgs_cons (pg_name (i := 3) sc_law.nd rfl (Or.inr rfl)) pgs_nil))))
    (pss_cons (ps_setLc (i := 4) (own := [("_law_k", 14)]) (g := (gName 14)) (tt := tYes) (te := (tCall (spT K R_pick) [] E0 (tCons (tVar 1) (tCons (tCB (fun xs H Q => ∃ p ys, xs = [V.ref p] ∧ (SqL K H p ys ∨ SqT K H p ys) ∧ Q (V.int (ys.length : Int)) H) (tCons (tVar 3) tNil)) tNil)))) rfl sc_law.nd rfl rfl (sw_true rfl rfl rfl (by decide +kernel)) (pi_range1 rfl T.z_range (pa_cons (pe_call G__law_pick (hr.mono (by first | decide | omega)) rfl T.d__law_pick.m T.d__law_pick.kp (b__law_pick T.d__law_pick.F) .nil pass0 (pa_cons (pv 1) (pa_cons pe_int pa_nil))) pa_nil)) (blkOk_by (N := N_law) (sc := defScope s_law) (by decide +kernel)) (fun _ _ _ _ _ => (pg_name (i := 14) sc_law.nd rfl (Or.inl rfl) (.inr rfl))) (fun _ _ _ _ _ => pts_nil) (fun _ _ _ _ _ => (pe_call G__law_pick (hr.mono (by first | decide | omega)) rfl T.d__law_pick.m T.d__law_pick.kp (b__law_pick T.d__law_pick.F) .nil pass0 (pa_cons (pv 1) (pa_cons (pe_callB call_len_seq (by rfl) T.z_len PySem.boot_len (pa_cons (pv 3) pa_nil)) pa_nil)))))
    (pss_cons (ps_asg (pe_call G_run (hr.mono (by first | decide | omega)) rfl T.d_run.m T.d_run.kp hbr.2 (.cons hbr.1 .nil) pass0 (pa_cons (pe_call G_begun (hr.mono (by first | decide | omega)) rfl T.d_begun.m T.d_begun.kp (b_begun T.d_begun.F) .nil pass0 (pa_cons (pv 2) (pa_cons (pv 3) pa_nil))) (pa_cons (pe_callTy call_tuple_of (by rfl) T.z_tuple (by decide +kernel) (pa_cons (pv 4) pa_nil)) pa_nil))) (pg_tup rfl (pgs_cons (pg_name (i := 5) sc_law.nd rfl (Or.inl rfl)) (pgs_cons (pg_name (i := 6) sc_law.nd rfl (Or.inl rfl)) pgs_nil))))
    (pss_cons (ps_set (i := 7) sc_law.nd rfl (Or.inl rfl) (pe_callB (cr_sum rfl) (by rfl) T.z_sum (by decide +kernel) (pa_cons (pe_lc (own := [("_law_programs", 15)]) (g := (gName 15)) (tt := tYes) (te := (tCB (fun xs H Q => ∃ p ys, xs = [V.ref p] ∧ (SqL K H p ys ∨ SqT K H p ys) ∧ Q (V.int (ys.length : Int)) H) (tCons (tVar 15) tNil))) rfl sc_law.nd (pi_tup (pv 3)) (blkOk_by (N := N_law) (sc := defScope s_law) (by decide +kernel)) (fun _ _ _ _ _ => (pg_name (i := 15) sc_law.nd rfl (Or.inl rfl) (.inr rfl))) (fun _ _ _ _ _ => pts_nil) (fun _ _ _ _ _ => (pe_callB call_len_seq (by rfl) T.z_len PySem.boot_len (pa_cons (pv 15) pa_nil)))) pa_nil)))
    (pss_cons (ps_par (i := 8) (j := 9) rfl sc_law.nd rfl rfl (by decide) rfl rfl (pa_cons (pe_callB call_len_seq (by rfl) T.z_len PySem.boot_len (pa_cons (pv 2) pa_nil)) (pa_cons (pe_callB call_len_seq (by rfl) T.z_len PySem.boot_len (pa_cons (pv 3) pa_nil)) pa_nil)) (by rfl))
    (pss_cons (ps_set (i := 10) sc_law.nd rfl (Or.inl rfl) (pe_call G__law_rounds (hr.mono (by first | decide | omega)) rfl T.d__law_rounds.m T.d__law_rounds.kp (b__law_rounds T.d__law_rounds.F) .nil pass0 (pa_cons (pv 8) (pa_cons (pv 9) (pa_cons (pv 7) pa_nil)))))
    (pss_cons (ps_if (pt_cmpR op_ne (pe_callB SkE.call_repr_int (by rfl) T.z_repr (by decide +kernel) (pa_cons (pe_callN0 G_rounds (hr.mono (by first | decide | omega)) rfl T.d_rounds.m T.d_rounds.kp (kb_rounds T.d_rounds.F) pass0  (pk_cons (pv 7) (pk_cons (pv 8) (pk_cons (pv 9) pk_nil)))) pa_nil)) (pe_callB SkE.call_repr_int (by rfl) T.z_repr (by decide +kernel) (pa_cons (pv 10) pa_nil)) (nomark _)) (pss_one (ps_ret pe_bl)) pss_nil)
    (pss_cons (ps_set (i := 11) sc_law.nd rfl (Or.inl rfl) pe_int)
    (pss_cons (ps_while PassesOwn.never (pt_not (pt_val (pe_call G_is_quiet (hr.mono (by first | decide | omega)) rfl T.d_is_quiet.m T.d_is_quiet.kp (b_is_quiet T.d_is_quiet.F) .nil pass0 (pa_cons (pv 5) pa_nil)))) (pss_cons (ps_asg (pe_call G_run (hr.mono (by first | decide | omega)) rfl T.d_run.m T.d_run.kp hbr.2 (.cons hbr.1 .nil) pass0 (pa_cons (pv 5) (pa_cons (pe_call G__law_order (hr.mono (by first | decide | omega)) rfl T.d__law_order.m T.d__law_order.kp (b__law_order T.d__law_order.F) .nil pass0 (pa_cons (pv 1) (pa_cons (pv 9) pa_nil))) pa_nil))) (pg_tup rfl (pgs_cons (pg_name (i := 5) sc_law.nd rfl (Or.inl rfl)) (pgs_cons (pg_name (i := 6) sc_law.nd rfl (Or.inl rfl)) pgs_nil))))
    (pss_cons (ps_set (i := 11) sc_law.nd rfl (Or.inl rfl) (pe_op op_add (pv 11) pe_int))
    (pss_one (ps_if (PW.pt (pw_or (pt_cmpR op_gt (pv 11) (pv 10) (nomark _)) (pw_or1 (pt_cmpR (op_eqD hr.units) (pe_lc (own := [("_law_event", 17)]) (g := (gName 17)) (tt := (tTest (tOp (rIn K true) (tOp (rIx K) (tVar 17) (tC (.int 1))) (tTup (tCons (tC (.str "waits")) (tCons (tC (.str "rests")) tNil)))))) (te := (tVar 17)) rfl sc_law.nd (pi_tup (pv 6)) (blkOk_by (N := N_law) (sc := defScope s_law) (by decide +kernel)) (fun _ _ _ _ _ => (pg_name (i := 17) sc_law.nd rfl (Or.inl rfl) (.inr rfl))) (fun _ _ _ _ _ => pts_one (pt_cmpR op_notIn_seq (pe_ix ix_seq (pv 17) pe_int (fun _ _ => rfl)) (pe_tup (pa_cons pe_str (pa_cons pe_str pa_nil))) (by rfl))) (fun _ _ _ _ _ => (pv 17))) (pe_lst pa_nil) (nomark _))))) (pss_one (ps_ret pe_bl)) pss_nil)))))
    (pss_cons (ps_for PassesOwn.never rfl (pi_range1 rfl T.z_range (pa_cons (pv 9) pa_nil)) (pg_name (i := 12) sc_law.nd rfl (Or.inl rfl)) (pss_cons (ps_set (i := 13) sc_law.nd rfl (Or.inl rfl) (pe_ix ix_seq (pe_ix ix_seq (pv 5) pe_int (fun _ _ => rfl)) (pv 12) (fun _ _ => rfl)))
    (pss_one (ps_if (PW.pt (pw_or (pt_cmpR op_notIn_seq (pe_ix ix_seq (pv 13) pe_int (fun _ _ => rfl)) (pe_tup (pa_cons pe_str (pa_cons pe_str pa_nil))) (by rfl)) (pw_or1 (PW.pt (pw_and (pt_cmpR op_eq (pe_ix ix_seq (pv 13) pe_int (fun _ _ => rfl)) pe_str (nomark _)) (pw_and1 (pt_cmpR op_ne (pe_ix ix_seq (pv 13) pe_int (fun _ _ => rfl)) (pe_callB call_len_seq (by rfl) T.z_len PySem.boot_len (pa_cons (pe_ix ix_seq (pv 3) (pv 12) (fun _ _ => rfl)) pa_nil)) (nomark _)))))))) (pss_one (ps_ret pe_bl)) pss_nil))))
    (pss_one (ps_ret (pe_cmpR (op_eqD hr.units) (pe_lc (own := [("_law_cell", 16)]) (g := (gName 16)) (tt := (tTest (tOp (fun x y H Q => y = V.non ∧ Q (V.bl (!decide (x = V.non))) H) (tOp (rIx K) (tVar 16) (tC (.int 2))) (tC .non)))) (te := (tVar 16)) rfl sc_law.nd (pi_tup (pe_ix ix_seq (pv 5) pe_int (fun _ _ => rfl))) (blkOk_by (N := N_law) (sc := defScope s_law) (by decide +kernel)) (fun _ _ _ _ _ => (pg_name (i := 16) sc_law.nd rfl (Or.inl rfl) (.inr rfl))) (fun _ _ _ _ _ => pts_one (pt_cmpR op_notN (pe_ix ix_seq (pv 16) pe_int (fun _ _ => rfl)) pe_non (nomark _))) (fun _ _ _ _ _ => (pv 16))) (pe_lst pa_nil) (nomark _))))))))))))))), ?_⟩
  refine seq_set ⟨.ref a, rfl, a, ns, rfl, hs, fun p q H1 hp e1 t1 => ?_⟩
  have sa0 : SA K H (start N_law [V.ref a]) (some (.ref a) :: List.replicate 17 none) := sa_start (ds := [.ref a]) ⟨_, _, rfl, rfl, rfl⟩
  have g0 : nlG (some (D.ref a) :: List.replicate 17 none) := nlG_of rfl
  show tSeq _ _ _ _ _
  refine qt_run (E := { nx := fun _ H' => Q .non H', rt := Q }) (K := K) (p := p) (q := q) (b := 99000000) ?_ ((sa0.mono e1).set (i := 1) (d := .ref p) rfl) (g0.set (i := 1) (d := .ref p) rfl) t1 k
  walk_at "nt"
  refine qt_seq (qt_asg2 (c := 60000) (evt_call0 (R := R_small) (eva_cons (ev_var rfl) eva_nil) rfl ⟨rfl, rfl, rfl⟩) (by decide) fun d hd => ?_)
  obtain ⟨nums, cw, rfl, ok⟩ := hd
  refine ⟨_, _, rfl, ?_⟩
  have lenH : (handsL cw).length = cw.length := by unfold handsL; rw [List.length_map]
  have n1 := ok.n1
  have n3 := ok.n3
  have h1 := ok.h1
  have h3 := ok.h3
  walk_at "nt"
  intro σ2 H2 E2 sa2 g2 tp2 nn r
  refine seq_set (lc_tap (p := p) (q := q) (c := 1) (c' := 1) (N := 8) (P := fun d => ∃ i : Nat, i < 9 ∧ d = .int (i : Int)) (P' := fun d => ∃ i : Nat, i < cw.length ∧ d = .int (i : Int)) (ev_pick (m := 9) rfl ev_int (by decide) (by decide)) rfl (fun d ⟨i, hi, e⟩ => ⟨i, by omega, e⟩) (by decide) (fun x => ev_pick (m := cw.length) rfl ((ev_cb (eva_cons (ev_var rfl) eva_nil) rc_lenT).eq (by rw [lenH])) h1 (by omega)) (by decide) sa2 g2 tp2 _ fun r0 H3 vs3 ds3 n3' ⟨n4, hn4, en4⟩ e3 t3 hr3 rp rq al3 nd3 dl3 dp3 => ?_)
  obtain ⟨ah, rfl, hah⟩ := nats_of dp3
  have hahl : ah.length ≤ 8 := by have := D.int.inj en4; unfold iD at dl3; rw [List.length_map] at dl3; omega
  have ev3 := iV_of al3
  subst ev3
  have sa3 : SA K H3 (σ2.set 4 (some (.ref r0))) [some (.ref a), some (.ref p), some (.tup (nums.map .int)), some (.tup (handsL cw)), some (.ref r0), none, none, none, none, none, none, none, none, none, none, none, none, none] := (sa2.keep g2 (tp2.keep e3)).set (i := 4) (d := .ref r0) rfl
  have g3 : nlG [some (D.ref a), some (.ref p), some (.tup (nums.map .int)), some (.tup (handsL cw)), some (.ref r0), none, none, none, none, none, none, none, none, none, none, none, none, none] := g2.set (i := 4) (d := .ref r0) rfl
  have cx0 : Cx' cw nums.length (K70.begun (crewP cw nums.length) fun c => nums.getD c 0) := ⟨⟨by omega, by omega⟩, ok.ok, K70.begun_inv _⟩
  have runE := fun {E : XK} {E' : XK} => evp_callD (K := K) (Γ := [some (D.ref a), some (.ref p), some (.tup (nums.map .int)), some (.tup (handsL cw)), some (.lst (iD ah)), none, none, none, none, none, none, none, none, none, none, none, none, none]) (R := R_run) (E := E) (es := [.int 400]) (dvs := [.int 400]) (eva_cons (d := stD cw nums.length (K70.begun (crewP cw nums.length) fun c => nums.getD c 0)) (ev_call (R := R_begun) (E := E') (eva_cons (ev_var (i := 2) rfl) (eva_cons (ev_var (i := 3) rfl) eva_nil)) ⟨nums, cw, rfl, by omega, by omega, rfl⟩ fun _ e => e) (eva_cons (ev_cb (eva_cons (ev_var (i := 4) rfl) eva_nil) rc_tuple) eva_nil)) (fun H => AtL.one rfl) ⟨cw, nums.length, _, ah, rfl, by omega, hah, cx0, rfl⟩
  refine seq_asg (runE _ H3 (sa_list sa3 (i := 4) rfl hr3) _ fun v4 H4 d4 pd4 e4 a4 => ?_)
  obtain ⟨evs, rfl, _, eo, _⟩ := pd4
  have inv1 := K70.steps_inv (crew_ok ok.ok) (l := ah) (K70.begun_inv (p := crewP cw nums.length) fun c => nums.getD c 0) hah
  generalize (K70.steps (crewP cw nums.length) ah (K70.begun (crewP cw nums.length) fun c => nums.getD c 0)).1 = s1 at inv1 a4
  have phi1 : K70.Phi (crewP cw nums.length) s1 ≤ K70.bnd nums.length cw.length (K70.sumN cw.length fun h => (cw.getD h []).length) := Nat.le_trans (Nat.le_trans (Nat.le_add_right _ _) inv1.2) (K70.begun_le (p := crewP cw nums.length) _ n1 n3 h1 h3)
  have inv1 := inv1.1
  have t4 := t3.same e4
  have sa4 := sa3.mono e4
  have hgd : GD K (gTup K 2 (gCons (gName 5) (gCons (gName 6) gNil))) (.tup [stD cw nums.length s1, .tup evs]) [some (D.ref a), some (.ref p), some (.tup (nums.map .int)), some (.tup (handsL cw)), some (.ref r0), none, none, none, none, none, none, none, none, none, none, none, none, none] (fun Γ' => Γ' = [some (D.ref a), some (.ref p), some (.tup (nums.map .int)), some (.tup (handsL cw)), some (.ref r0), some (stD cw nums.length s1), some (.tup evs), none, none, none, none, none, none, none, none, none, none, none]) := gd_un2 rfl
  refine hgd v4 _ H4 _ sa4 a4 fun Γ5 σ5 H5 eG e5 sa5 => ?_
  subst eG
  have g5 : nlG [some (D.ref a), some (.ref p), some (.tup (nums.map .int)), some (.tup (handsL cw)), some (.ref r0), some (stD cw nums.length s1), some (.tup evs), none, none, none, none, none, none, none, none, none, none, none] := (g3.set (i := 5) (d := stD cw nums.length s1) nl_st).set (i := 6) (d := .tup evs) (nl_evs eo)
  refine (?_ : QT K p q _ _ 98000000 (fun _ _ => False) (fun d _ => d = .bl true)) _ H5 E2 sa5 g5 ((t4.same e5).le (by decide)) (fun _ _ _ _ f => f.elim) fun d v b' H' rd nd' e6 t6 a6 => ?_
  · have tk2 := tk_le (nums := nums) ok.two cw.length (Nat.le_refl _)
    generalize etk : (K70.sumN cw.length fun h => (cw.getD h []).length) = tk at phi1 tk2
    refine qt_seq (qt_set (c := 0) (evt_of (d := .int (tk : Int)) ?_ rfl) (Nat.zero_le _) fun d e => ?_)
    · refine (ev_cb (eva_cons (d := .lst ((cw.map fun ps => (ps.length : Int)).map .int)) ((ev_lcM (f := fun ps : List Pg => .tup (ps.map pgD)) (fun ps => some (.int (ps.length : Int))) (ev_var rfl) (by omega) fun ps hps => lc_keep rfl (gw_name (by decide) ((ev_cb (eva_cons (ev_var rfl) eva_nil) rc_lenT).eq (by rw [List.length_map])))).eq ?_) eva_nil) rc_sum).eq (by rw [sum_len, etk])
      rw [show (fun ps : List Pg => some (D.int (ps.length : Int))) = some ∘ (fun ps : List Pg => D.int (ps.length : Int)) from rfl, List.filterMap_eq_map, List.map_map]
      rfl
    subst e
    walk_at "nt"
    refine qt_seq (qt_par (c := 0) (P := fun d => d = .int (nums.length : Int)) (P' := fun d => d = .int (cw.length : Int)) (fun b σ H lb sa tp Q k => ?_) (Nat.zero_le _) fun d1 d2 x1 x2 => ?_)
    · exact evta_of (ds := [.int (nums.length : Int), .int (cw.length : Int)]) (eva_cons ((ev_cb (eva_cons (ev_var rfl) eva_nil) rc_lenT).eq (by rw [List.length_map])) (eva_cons ((ev_cb (eva_cons (ev_var rfl) eva_nil) rc_lenT).eq (by rw [lenH])) eva_nil)) rfl b σ H lb sa tp Q fun vs H' ds e n s t a => k vs H' ds ⟨_, _, e, rfl, rfl⟩ n s t a
    subst x1 x2
    walk_at "nt"
    refine qt_seq (qt_set (c := 0) (evt_of (d := .int (K70.bnd nums.length cw.length tk : Int)) (ev_call (R := R_lrounds) (eva_cons (ev_var rfl) (eva_cons (ev_var rfl) (eva_cons (ev_var rfl) eva_nil))) ⟨_, _, tk, rfl, n3, h3, by omega, rfl⟩ fun _ e => e) rfl) (Nat.zero_le _) fun d e => ?_)
    subst e
    walk_at "nt"
    have big := bnd_big n3 h3 (t := tk) (by omega)
    have lg : ((K70.bnd nums.length cw.length tk : Nat) : Int).natAbs.log2 < 1920 := by
      rw [Int.natAbs_natCast]
      by_cases z : K70.bnd nums.length cw.length tk = 0
      · rw [z]; decide
      · exact Nat.lt_of_lt_of_le ((Nat.log2_lt z (k := 17)).mpr (Nat.lt_of_le_of_lt big (by decide))) (by decide)
    refine qt_seq (qt_if (bb := false) ((eb_test (ev_op (ev_cb (eva_cons ((evp_callN0 (R := R_rounds) (eva_cons (ev_var rfl) (eva_cons (ev_var rfl) (eva_cons (ev_var rfl) eva_nil))) ⟨nums.length, cw.length, tk, rfl, n3, h3, by omega, rfl⟩).det fun _ e => e) eva_nil) (rc_repr lg)) (ev_cb (eva_cons (ev_var rfl) eva_nil) (rc_repr lg)) (rd_ne rfl rfl rfl))).eq (by simp)) (fun c => by cases c) fun _ => qt_next ?_)
    refine qt_seq (qt_set (c := 0) (evt_of (d := .int ((0 : Nat) : Int)) ev_int rfl) (Nat.zero_le _) fun d e => ?_)
    subst e
    walk_at "nt"
    generalize emost : K70.bnd nums.length cw.length tk = most at big phi1
    intro σ6 H6 E6 sa6 g6 tp6 nn6 r6
    refine seq_of ⟨fun mm σ H' => ∃ (s : K70.S) (evs : List D) (n b' : Nat), mm = most + 1 - n ∧ n ≤ most ∧ SA K H' σ (gW a p r0 nums cw tk most s evs n) ∧ K70.Inv (crewP cw nums.length) s ∧ K70.Phi (crewP cw nums.length) s + n ≤ most ∧ (∀ e ∈ evs, evOk e) ∧ SameS [p] H6 H' ∧ Tap p q b' H' ∧ 97000000 - 4 * n ≤ b',
      ⟨most + 1, s1, evs, 0, _, rfl, Nat.zero_le _, sa6, inv1, by omega, eo, SameS.refl, tp6, by omega⟩, fun mm σ7 H7 ⟨s, evs, n, b7, em, hn, sa7, inv7, phi7, eo7, ss7, t7, hb7⟩ => ?_⟩
    have quiet : EvB K _ (gW a p r0 nums cw tk most s evs n) (!((List.range cw.length).all fun i => K70.restRow (s.rows i))) := eb_not (eb_B (ev_call (R := R_is_quiet) (E := E0) (eva_cons (ev_var (i := 5) rfl) eva_nil) ⟨cw, nums.length, s, rfl, cx0.sz, rfl⟩ fun _ e => e))
    refine quiet σ7 H7 sa7 _ fun H8 e8 => ?_
    cases hq : ((List.range cw.length).all fun i => K70.restRow (s.rows i)) with
    | true =>
      refine iteF (nx_of (E := E6) ?_)
      refine (?_ : QS K _ (gW a p r0 nums cw tk most s evs n) (fun _ => False) (fun d => d = .bl true)) _ H8 E6 (sa7.mono e8) (fun _ _ _ f => f.elim) fun d v H' rd e' a' => ?_
      · have rest : ∀ i, i < cw.length → K70.restRow (s.rows i) = true := fun i hl => List.all_eq_true.mp hq i (List.mem_range.mpr hl)
        refine q_seq (q_forR (fun i Γ => ∃ o12 o13 : Option D, Γ = [some (.ref a), some (.ref p), some (.tup (nums.map .int)), some (.tup (handsL cw)), some (.ref r0), some (stD cw nums.length s), some (.tup evs), some (.int (tk : Int)), some (.int (nums.length : Int)), some (.int (cw.length : Int)), some (.int (most : Int)), some (.int (n : Int)), o12, o13, none, none, none, none]) (n := cw.length) (eva_cons (ev_var (i := 9) rfl) eva_nil) (by omega) ⟨none, none, rfl⟩ ?_ ?_)
        · rintro i Γ hi ⟨o12, o13, rfl⟩
          refine gd_name (q_seq (q_set (d := rowD (s.rows i)) (ev_row (j := 5) (i := 12) rfl rfl hi) ?_))
          refine q_nf (Γ' := [some (.ref a), some (.ref p), some (.tup (nums.map .int)), some (.tup (handsL cw)), some (.ref r0), some (stD cw nums.length s), some (.tup evs), some (.int (tk : Int)), some (.int (nums.length : Int)), some (.int (cw.length : Int)), some (.int (most : Int)), some (.int (n : Int)), some (.int (i : Int)), some (rowD (s.rows i)), none, none, none, none]) rfl ?_
          refine q_if (b := false) ?_ (fun c => by cases c) fun _ => q_next ⟨_, _, rfl⟩
          have hr := rest i hi
          have ph : inV (.str (phS (s.rows i))) [.str "through", .str "sleeps"] = true := by
            have p1 : inV (.str "sleeps") [.str "through", .str "sleeps"] = true := by decide +kernel
            have p2 : inV (.str "through") [.str "through", .str "sleeps"] = true := by decide +kernel
            cases er : s.rows i <;> rw [er] at hr <;> first | (cases hr; done) | exact p1 | exact p2
          have kk : phS (s.rows i) = "through" → (s.rows i).k = (cw.getD i []).length := fun h => by
            have ro := inv7.row i hi
            cases er : s.rows i with
            | through k => rw [er] at ro; exact ro
            | sleeps k t r rs => rw [er] at h; exact absurd (show ("sleeps" : Str) = "through" from h) (by decide +kernel)
            | new k t => rw [er] at hr; cases hr
            | walks k t r rs => rw [er] at hr; cases hr
            | locks k t r rs ws d => rw [er] at hr; cases hr
            | checks k t r w rs ws d => rw [er] at hr; cases hr
            | backs k t r w rs ws d => rw [er] at hr; cases hr
          have w1 : Ev K _ [some (.ref a), some (.ref p), some (.tup (nums.map .int)), some (.tup (handsL cw)), some (.ref r0), some (stD cw nums.length s), some (.tup evs), some (.int (tk : Int)), some (.int (nums.length : Int)), some (.int (cw.length : Int)), some (.int (most : Int)), some (.int (n : Int)), some (.int (i : Int)), some (rowD (s.rows i)), none, none, none, none] (.str (phS (s.rows i))) := ev_ix (n := 1) (ds := rowL (s.rows i)) (ev_var (i := 13) rfl) (by decide) rfl
          have w0 : Ev K _ [some (.ref a), some (.ref p), some (.tup (nums.map .int)), some (.tup (handsL cw)), some (.ref r0), some (stD cw nums.length s), some (.tup evs), some (.int (tk : Int)), some (.int (nums.length : Int)), some (.int (cw.length : Int)), some (.int (most : Int)), some (.int (n : Int)), some (.int (i : Int)), some (rowD (s.rows i)), none, none, none, none] (.int ((s.rows i).k : Int)) := ev_ix (n := 0) (ds := rowL (s.rows i)) (ev_var (i := 13) rfl) (by decide) rfl
          have wl : Ev K _ [some (.ref a), some (.ref p), some (.tup (nums.map .int)), some (.tup (handsL cw)), some (.ref r0), some (stD cw nums.length s), some (.tup evs), some (.int (tk : Int)), some (.int (nums.length : Int)), some (.int (cw.length : Int)), some (.int (most : Int)), some (.int (n : Int)), some (.int (i : Int)), some (rowD (s.rows i)), none, none, none, none] (.int ((cw.getD i []).length : Int)) := (ev_cb (eva_cons (d := .tup ((cw.getD i []).map pgD)) (ev_ixv (n := i) (i := 12) (ds := handsL cw) (ev_var (i := 3) rfl) rfl (handsL_get hi)) eva_nil) rc_lenT).eq (by rw [List.length_map])
          refine (eb_or ((eb_test (ev_op w1 (ev_tup (eva_cons ev_str (eva_cons ev_str eva_nil)) (sz5 (Nat.le_of_ble_eq_true rfl))) (rd_inT (neg := true) (xs := [.str "through", .str "sleeps"]) rfl rfl rfl rfl))).eq (b' := false) (by rw [if_pos rfl, ph]; rfl)) fun _ => eb_and (eb_test (ev_op w1 ev_str (rd_eq rfl rfl rfl))) fun _ => eb_test (ev_op w0 wl (rd_ne rfl rfl rfl))).eq ?_
          by_cases h : phS (s.rows i) = "through"
          · rw [kk h]; simp
          · have : decide (V.str (phS (s.rows i)) = V.str "through") = false := decide_eq_false fun e => h (V.str.inj e)
            rw [this]; rfl
        · rintro Γ ⟨o12, o13, rfl⟩
          refine q_retD (d := .bl true) ?_ rfl
          refine (ev_op ((ev_lcTi (n := nums.length) (f := fun c => cellD (s.cells c)) (fun _ => none) (ev_ix (n := 3) (ds := [.tup (handsL cw), .int s.clock, .int s.tickets, .tup (cellsL nums.length s.cells), .tup (rowsL cw.length s.rows)]) (ev_var (i := 5) rfl) (by decide) rfl) (by omega) fun c hc => gw_name (by decide) ⟨false, ?_, (fun b => by cases b), fun _ => rfl⟩).eq (d' := .lst []) ?_) (ev_lst eva_nil (Nat.zero_le _)) (rd_eqL (n := 10) rfl (by decide))).eq rfl
          · refine (eb_notN (d := optN (s.cells c).holder) (ev_ix (n := 2) (ds := [.int (s.cells c).num, .int (s.cells c).stamp, optN (s.cells c).holder]) (ev_var (i := 16) rfl) (by decide) rfl)).eq ?_
            rw [K70.rest_free inv7 rest hc]; rfl
          · congr 1
            exact List.filterMap_eq_nil_iff.mpr fun _ _ => rfl
      · exact r6 d v b7 H' rd (by subst rd; rfl) ((ss7.trans (SameS.of e8)).trans (SameS.of e')) ((t7.same e8).same e') a'
    | false =>
      refine iteT ⟨_, fun σ2 H2 z => z, ?_⟩
      have g8 : nlG (gW a p r0 nums cw tk most s evs n) := nlG_of (by simp [nlGb, gW, nl, nlL, nl_ints, nl_hands, nl_st, nl_evs eo7])
      have sa8 := sa7.mono e8
      have t8 := t7.same e8
      refine (?_ : QT K p q _ (gW a p r0 nums cw tk most s evs n) b7 (fun Γ b => ∃ s' evs' , Γ = gW a p r0 nums cw tk most s' evs' (n + 1) ∧ n + 1 ≤ most ∧ K70.Inv (crewP cw nums.length) s' ∧ K70.Phi (crewP cw nums.length) s' + (n + 1) ≤ most ∧ (∀ e ∈ evs', evOk e) ∧ b7 - cw.length ≤ b) (fun d _ => d = .bl true)) _ H8 _ sa8 g8 t8 (fun Γ' b' σ' H' ⟨s', evs', eG, hn', i', p', eo', hb'⟩ e' sa' g' t' => ?_) fun d v b' H' rd nd' e' t' a' => ?_
      · refine qt_seq (qt_asg2 (c := cw.length) (P := fun d => ∃ l : List Nat, l.Perm (List.range cw.length) ∧ ∃ evs' : List D, d = .tup [stD cw nums.length (K70.steps (crewP cw nums.length) l s).1, .tup evs'] ∧ (∀ e ∈ evs', evOk e) ∧ ((K70.steps (crewP cw nums.length) l s).2 = true ↔ ∃ e ∈ evs', evOn e) ∧ evs'.length ≤ 400) ?_ (by omega) fun d hd => ?_)
        · refine evt_le (evt_callE (c := 0 + (cw.length + 0)) (es := [.int 400]) (evta_cons g8 (evt_of (ev_var (i := 5) rfl) nl_st) (evta_cons g8 (evt_call0 (R := R_order) (eva_cons (ev_var (i := 1) rfl) (eva_cons (ev_var (i := 9) rfl) eva_nil)) rfl ⟨cw.length, rfl, by omega, rfl, rfl⟩) evta_nil)) (fun H => AtL.one rfl) fun ds ha => ?_) (by omega) fun _ h => h
          obtain ⟨_, _, rfl, rfl, _, _, rfl, ⟨l, rfl, pm⟩, rfl⟩ := ha
          refine ⟨_, ⟨cw, nums.length, s, l, rfl, by rw [pm.length_eq, List.length_range]; omega, fun h hh => List.mem_range.mp (pm.mem_iff.mp hh), ⟨cx0.sz, ok.ok, inv7⟩, rfl⟩, fun d ⟨evs', e, el', eo', en'⟩ => ⟨⟨l, pm, evs', e, eo', en', by rw [el', pm.length_eq, List.length_range]; omega⟩, ?_⟩⟩
          rw [e]; simp only [nl, nlL, nl_st, nl_evs eo']; rfl
        · obtain ⟨l, pm, evs', rfl, eo', en', el'⟩ := hd
          refine ⟨_, _, rfl, ?_⟩
          have hin : ∀ h ∈ l, h < cw.length := fun h hh => List.mem_range.mp (pm.mem_iff.mp hh)
          have si := K70.steps_inv (crew_ok ok.ok) (l := l) inv7 hin
          obtain ⟨hx, hxl, hxr⟩ : ∃ h, h < cw.length ∧ K70.restRow (s.rows h) = false := by
            obtain ⟨h, hm, hr⟩ := List.all_eq_false.mp hq
            exact ⟨h, List.mem_range.mp hm, by simpa using hr⟩
          have on := K70.round_on (crew_ok ok.ok) inv7 (l := l) (fun h hh => pm.mem_iff.mpr (List.mem_range.mpr hh)) (h := hx) hxl hxr
          rw [on] at si
          have si2 : K70.Phi (crewP cw nums.length) (K70.steps (crewP cw nums.length) l s).1 + 1 ≤ K70.Phi (crewP cw nums.length) s := si.2
          have si1 := si.1
          obtain ⟨eon, eon1, eon2⟩ := en'.mp on
          generalize (K70.steps (crewP cw nums.length) l s).1 = s' at si1 si2
          have hn1 : n + 1 ≤ most := by omega
          refine qt_nf (Γ' := gW a p r0 nums cw tk most s' evs' n) rfl ?_
          refine qt_seq (qt_set (c := 0) (evt_of (d := .int ((n + 1 : Nat) : Int)) (ev_op (ev_var (i := 11) rfl) ev_int rd_int) rfl) (Nat.zero_le _) fun d e => ?_)
          subst e
          refine qt_nf (Γ' := gW a p r0 nums cw tk most s' evs' (n + 1)) rfl ?_
          refine qt_if (bb := false) ?_ (fun c => by cases c) fun _ => qt_next ⟨s', evs', rfl, hn1, si1, by omega, eo', by omega⟩
          have hgd : gdL (evs'.filterMap fun e => if onB e = true then some e else none) 10 = true := gdL_mem fun d hd => by
            obtain ⟨e, he, ee⟩ := List.mem_filterMap.mp hd
            split at ee
            · rw [← Option.some.inj ee]
              obtain ⟨h, z, rest, rfl, hc, hg⟩ := eo' e he
              show (gdD (.int (h : Int)) 9 && (gdD (.str z) 9 && gdL rest 9)) = true
              rw [gdL_up hg]; simp only [gdD, hc]; rfl
            · cases ee
          refine eb_or (b := false) (c := false) ((eb_test (ev_op (ev_var (i := 11) rfl) (ev_var (i := 10) rfl) rd_gt)).eq (decide_eq_false (by omega))) fun _ => (eb_test (ev_op (ev_lcM (f := id) (fun e => if onB e = true then some e else none) ((ev_var (i := 6) rfl).eq (by rw [List.map_id])) (by omega) fun e he => ?_) (ev_lst eva_nil (Nat.zero_le _)) (rd_eqL hgd (by decide)))).eq ?_
          · obtain ⟨h, z, rest, rfl, hc, hg⟩ := eo' e he
            refine gw_name (by decide) ⟨onB (.tup (.int (h : Int) :: .str z :: rest)), eb_test (ev_op (d1 := .str z) (ev_ix (ds := .int (h : Int) :: .str z :: rest) (ev_var (i := 17) rfl) (by decide) rfl) (ev_tup (eva_cons ev_str (eva_cons ev_str eva_nil)) (sz5 (Nat.le_of_ble_eq_true rfl))) (rd_inT (neg := true) (xs := [.str "waits", .str "rests"]) rfl rfl rfl rfl)), fun b => ⟨_, by rw [if_pos b], ev_nl (eo' _ he), ev_var (i := 17) rfl⟩, fun b => by rw [if_neg (by rw [b]; exact Bool.false_ne_true)]⟩
          · obtain ⟨h, z, rest, rfl, hz⟩ := eon2
            have hb : onB (.tup (.int (h : Int) :: .str z :: rest)) = true := by
              show (!inV (.str z) [.str "waits", .str "rests"]) = true
              have : inV (.str z) [.str "waits", .str "rests"] = false := by
                have q1 : eqV (.str "waits") (.str z) = false := by
                  simp only [eqV]; first | exact decide_eq_false fun e => hz (.inl e.symm) | exact beq_eq_false_iff_ne.mpr fun e => hz (.inl e.symm) | (simp; exact fun e => hz (.inl e.symm))
                have q2 : eqV (.str "rests") (.str z) = false := by
                  simp only [eqV]; first | exact decide_eq_false fun e => hz (.inr e.symm) | exact beq_eq_false_iff_ne.mpr fun e => hz (.inr e.symm) | (simp; exact fun e => hz (.inr e.symm))
                unfold inV
                simp only [List.any_cons, List.any_nil, q1, q2]; rfl
              rw [this]; rfl
            cases hfe : (evs'.filterMap fun e => if onB e = true then some e else none) with
            | nil =>
              have hm := List.mem_filterMap (f := fun e => if onB e = true then some e else none).mpr ⟨_, eon1, if_pos hb⟩
              rw [hfe] at hm; cases hm
            | cons x xs => rfl
      · subst eG
        exact ⟨most + 1 - (n + 1), by omega, s', evs', n + 1, b', rfl, hn', sa', i', p', eo', (ss7.trans (SameS.of e8)).trans e', t', by omega⟩
      · exact r6 d v b' H' rd nd' ((ss7.trans (SameS.of e8)).trans e') t' a'
  · exact r d v b' H' rd nd' (((e3.trans (SameS.of e4)).trans (SameS.of e5)).trans e6) t6 a6
end
end Wk
set_option Elab.async false
set_option linter.all false
set_option maxRecDepth 100000
set_option maxHeartbeats 0
/-! the end: what the top has left, by names; the statement -/
namespace Wk
open PySem PySem.Spec PyProof.Rows L2
def dd (x : Str) (st : Stmt) (kw : List (Str × He.Dv)) : He.DefD := ⟨(x, none), x, x, defArgs st, defBody st, defScope st, [], kw⟩
def fnD0 : List He.DefD := [dd "is_number" s_is_number [], dd "need_hand" s_need_hand [], dd "row_new" s_row_new [], dd "begun" s_begun [], dd "is_quiet" s_is_quiet [], dd "with_row" s_with_row [], dd "with_cell" s_with_cell [], dd "freed" s_freed [], dd "given_up" s_given_up [], dd "done_with" s_done_with [], dd "reckoned" s_reckoned [], dd "worth" s_worth [], dd "fresh" s_fresh [], dd "weighed" s_weighed [], dd "with_slot" s_with_slot [], dd "read_on" s_read_on [], dd "write_on" s_write_on [], dd "let_on" s_let_on [], dd "tell_on" s_tell_on [], dd "if_on" s_if_on []]
def fnD1 : List He.DefD := [dd "inner_on" s_inner_on [], dd "either_on" s_either_on [], dd "leave_on" s_leave_on [], dd "walk_on" s_walk_on [], dd "goes_on" s_goes_on [], dd "pact_of" s_pact_of [], dd "gives" s_gives [], dd "rests" s_rests [], dd "begins" s_begins [], dd "reads_cell" s_reads_cell [], dd "retries" s_retries [], dd "walks" s_walks [], dd "locks_next" s_locks_next [], dd "written_by" s_written_by [], dd "sure_by" s_sure_by [], dd "locks" s_locks [], dd "checks" s_checks [], dd "woken_by" s_woken_by [], dd "backs" s_backs [], dd "step" s_step []]
def fnD2 : List He.DefD := [dd "laid_at_once" s_laid_at_once [], dd "stopped" s_stopped [], dd "hand_of" s_hand_of [], dd "run" s_run [("most", .int 400)], dd "stays_of" s_stays_of [], dd "rounds" s_rounds [], dd "_law_tap" s__law_tap [], dd "_law_pick" s__law_pick [], dd "_law_number" s__law_number [], dd "_law_amount" s__law_amount [], dd "_law_steps" s__law_steps [], dd "_law_one" s__law_one [], dd "_law_pact" s__law_pact [], dd "_law_rounds" s__law_rounds [], dd "_law_order" s__law_order [], dd "_law_small" s__law_small [], dd "law" s_law []]
def fnD : List He.DefD := fnD0 ++ fnD1 ++ fnD2
def faD0 : List He.Fa := [.glo "is_number", .glo "need_hand", .glo "row_new", .glo "begun", .glo "is_quiet", .glo "with_row", .glo "with_cell", .glo "freed", .glo "given_up", .glo "done_with", .glo "reckoned", .glo "worth", .glo "fresh", .glo "weighed", .glo "with_slot", .glo "read_on", .glo "write_on", .glo "let_on", .glo "tell_on", .glo "if_on"]
def faD1 : List He.Fa := [.glo "inner_on", .glo "either_on", .glo "leave_on", .glo "walk_on", .glo "goes_on", .glo "pact_of", .glo "gives", .glo "rests", .glo "begins", .glo "reads_cell", .glo "retries", .glo "walks", .glo "locks_next", .glo "written_by", .glo "sure_by", .glo "locks", .glo "checks", .glo "woken_by", .glo "backs", .glo "step"]
def faD2 : List He.Fa := [.glo "laid_at_once", .glo "stopped", .glo "hand_of", .glo "run", .glo "stays_of", .glo "rounds", .glo "_law_tap", .glo "_law_pick", .glo "_law_number", .glo "_law_amount", .glo "_law_steps", .glo "_law_one", .glo "_law_pact", .glo "_law_rounds", .glo "_law_order", .glo "_law_small", .glo "law", .free "len", .free "tuple", .free "dict"]
def faD3 : List He.Fa := [.free "sorted", .free "all", .free "sum", .free "list", .free "range", .free "isinstance", .free "repr", .free "int", .free "bool", .glo "STEPS", .glo "DEEDS", .glo "RESTING", .str "SURE" "backs", .str "ON" "on"]
def faD : List He.Fa := faD0 ++ faD1 ++ faD2 ++ faD3
def tbD : List He.Tab := [(fun K => He.ga K "STEPS", ["read", "write", "let", "tell", "if", "inner", "either", "out", "retry"]), (fun K => He.ga K "DEEDS", ["new", "walks", "locks", "checks", "backs", "through", "sleeps", "stopped"])]
def vS : List (Str × He.Dv) := [("read", .glo "read_on"), ("write", .glo "write_on"), ("let", .glo "let_on"), ("tell", .glo "tell_on"), ("if", .glo "if_on"), ("inner", .glo "inner_on"), ("either", .glo "either_on"), ("out", .glo "leave_on"), ("retry", .glo "leave_on")]
def vD : List (Str × He.Dv) := [("new", .glo "begins"), ("walks", .glo "walks"), ("locks", .glo "locks"), ("checks", .glo "checks"), ("backs", .glo "backs"), ("through", .glo "rests"), ("sleeps", .glo "rests"), ("stopped", .glo "rests")]
def vR : List He.Dv := [.str "through", .str "stopped", .str "sleeps"]
def exD (K : PySem.W.Frag) : Bool := He.tupB K "RESTING" vR && (He.valsB K (He.ga K "STEPS") vS && He.valsB K (He.ga K "DEEDS") vD)
section
variable {K : PySem.W.Frag} {h : Heap} {mg : Str → Option Value} {w : World}
theorem fun_ofD {x : Str} {st : Stmt} {kws : List (Str × V)} {f : Addr} {fd : FuncData} (F : FunD K x x (defArgs st) (defBody st) (defScope st) [] kws f fd) : Fun K x x st f fd := by
  obtain ⟨oc, od, dV, kV, doc, pm, an, cdv, ct, osl, e, lk, hcd, hD, hK⟩ := F.ex
  rcases hD with ⟨_, rfl⟩ | ⟨e2, _⟩
  · exact ⟨⟨oc, od, kV, doc, pm, an, cdv, ct, osl, e, lk, hcd⟩, F.kp⟩
  · exact absurd rfl e2
theorem dd_at {c : He.SaysD faD fnD K} {x : Str} {st : Stmt} {kw : List (Str × He.Dv)} (i : Nat) (hf : fnD[i]? = some (dd x st kw)) : ∃ fd, FunD K x x (defArgs st) (defBody st) (defScope st) [] (kw.map fun q => (q.1, q.2.v K)) (He.ga K x) fd := c.def_ i hf
noncomputable def dA (c : He.SaysD faD fnD K) (X : K.In h) (G : h.Ns mainGlobals mg) {x : Str} {st : Stmt} {kw : List (Str × He.Dv)} (i : Nat) (hf : fnD[i]? = some (dd x st kw)) (ha : faD[i]? = some (.glo x)) : DefAt K mg x st :=
  ⟨He.ga K x, Classical.choose (dd_at (c := c) i hf), fun_ofD (Classical.choose_spec (dd_at (c := c) i hf)), He.glo_ok X G (c.fact i ha)⟩
theorem str_at {x z : Str} (e : ∃ t, mg x = some (.str z t)) : ∃ u, mg x = some u ∧ RelV (.str z) u := let ⟨t, e⟩ := e; ⟨_, e, t, rfl⟩
theorem kdct_of {a : Addr} {kvs : List (Str × He.Dv)} {x y : Str} (t : ∃ es n, KDict K w a es n) (v : He.valsB K a kvs = true) (m : (x, He.Dv.glo y) ∈ kvs) : KDct K w a x (.ref (He.ga K y)) := by
  obtain ⟨es, n, l, k, _⟩ := t
  obtain ⟨u, e, r⟩ := He.valsB_ok v m
  exact ⟨es, n, u, l, k, e, r⟩
noncomputable def txt (X : K.In h) (G : h.Ns mainGlobals mg) (c : He.SaysD faD fnD K) (t : He.SaysT faD fnD tbD w K) (m : exD K = true) : Txt K w mg where
  d_is_number := dA c X G 0 rfl rfl
  d_need_hand := dA c X G 1 rfl rfl
  d_row_new := dA c X G 2 rfl rfl
  d_begun := dA c X G 3 rfl rfl
  d_is_quiet := dA c X G 4 rfl rfl
  d_with_row := dA c X G 5 rfl rfl
  d_with_cell := dA c X G 6 rfl rfl
  d_freed := dA c X G 7 rfl rfl
  d_given_up := dA c X G 8 rfl rfl
  d_done_with := dA c X G 9 rfl rfl
  d_reckoned := dA c X G 10 rfl rfl
  d_worth := dA c X G 11 rfl rfl
  d_fresh := dA c X G 12 rfl rfl
  d_weighed := dA c X G 13 rfl rfl
  d_with_slot := dA c X G 14 rfl rfl
  d_read_on := dA c X G 15 rfl rfl
  d_write_on := dA c X G 16 rfl rfl
  d_let_on := dA c X G 17 rfl rfl
  d_tell_on := dA c X G 18 rfl rfl
  d_if_on := dA c X G 19 rfl rfl
  d_inner_on := dA c X G 20 rfl rfl
  d_either_on := dA c X G 21 rfl rfl
  d_leave_on := dA c X G 22 rfl rfl
  d_walk_on := dA c X G 23 rfl rfl
  d_goes_on := dA c X G 24 rfl rfl
  d_pact_of := dA c X G 25 rfl rfl
  d_gives := dA c X G 26 rfl rfl
  d_rests := dA c X G 27 rfl rfl
  d_begins := dA c X G 28 rfl rfl
  d_reads_cell := dA c X G 29 rfl rfl
  d_retries := dA c X G 30 rfl rfl
  d_walks := dA c X G 31 rfl rfl
  d_locks_next := dA c X G 32 rfl rfl
  d_written_by := dA c X G 33 rfl rfl
  d_sure_by := dA c X G 34 rfl rfl
  d_locks := dA c X G 35 rfl rfl
  d_checks := dA c X G 36 rfl rfl
  d_woken_by := dA c X G 37 rfl rfl
  d_backs := dA c X G 38 rfl rfl
  d_step := dA c X G 39 rfl rfl
  d_laid_at_once := dA c X G 40 rfl rfl
  d_stopped := dA c X G 41 rfl rfl
  d_hand_of := dA c X G 42 rfl rfl
  d_run := dA c X G 43 rfl rfl
  d_stays_of := dA c X G 44 rfl rfl
  d_rounds := dA c X G 45 rfl rfl
  d__law_tap := dA c X G 46 rfl rfl
  d__law_pick := dA c X G 47 rfl rfl
  d__law_number := dA c X G 48 rfl rfl
  d__law_amount := dA c X G 49 rfl rfl
  d__law_steps := dA c X G 50 rfl rfl
  d__law_one := dA c X G 51 rfl rfl
  d__law_pact := dA c X G 52 rfl rfl
  d__law_rounds := dA c X G 53 rfl rfl
  d__law_order := dA c X G 54 rfl rfl
  d__law_small := dA c X G 55 rfl rfl
  d_law := dA c X G 56 rfl rfl
  z_len := He.free_ok X G (c.fact 57 (f := .free "len") rfl)
  z_tuple := He.free_ok X G (c.fact 58 (f := .free "tuple") rfl)
  z_dict := He.free_ok X G (c.fact 59 (f := .free "dict") rfl)
  z_sorted := He.free_ok X G (c.fact 60 (f := .free "sorted") rfl)
  z_all := He.free_ok X G (c.fact 61 (f := .free "all") rfl)
  z_sum := He.free_ok X G (c.fact 62 (f := .free "sum") rfl)
  z_list := He.free_ok X G (c.fact 63 (f := .free "list") rfl)
  z_range := He.free_ok X G (c.fact 64 (f := .free "range") rfl)
  z_isinstance := He.free_ok X G (c.fact 65 (f := .free "isinstance") rfl)
  z_repr := He.free_ok X G (c.fact 66 (f := .free "repr") rfl)
  z_int := He.free_ok X G (c.fact 67 (f := .free "int") rfl)
  z_bool := He.free_ok X G (c.fact 68 (f := .free "bool") rfl)
  a_STEPS := He.ga K "STEPS"
  g_STEPS := ⟨_, He.glo_ok X G (c.fact 69 (f := .glo "STEPS") rfl), rfl⟩
  a_DEEDS := He.ga K "DEEDS"
  g_DEEDS := ⟨_, He.glo_ok X G (c.fact 70 (f := .glo "DEEDS") rfl), rfl⟩
  a_RESTING := He.ga K "RESTING"
  g_RESTING := ⟨_, He.glo_ok X G (c.fact 71 (f := .glo "RESTING") rfl), rfl⟩
  g_SURE := str_at (He.str_ok X G (c.fact 72 (f := .str "SURE" "backs") rfl))
  g_ON := str_at (He.str_ok X G (c.fact 73 (f := .str "ON" "on") rfl))
  kS_read := kdct_of (y := "read_on") (t.tab 0 (t := (fun K => He.ga K "STEPS", _)) rfl) (He.ba (He.ba m).2).1 (by simp [vS])
  kS_write := kdct_of (y := "write_on") (t.tab 0 (t := (fun K => He.ga K "STEPS", _)) rfl) (He.ba (He.ba m).2).1 (by simp [vS])
  kS_let := kdct_of (y := "let_on") (t.tab 0 (t := (fun K => He.ga K "STEPS", _)) rfl) (He.ba (He.ba m).2).1 (by simp [vS])
  kS_tell := kdct_of (y := "tell_on") (t.tab 0 (t := (fun K => He.ga K "STEPS", _)) rfl) (He.ba (He.ba m).2).1 (by simp [vS])
  kS_if := kdct_of (y := "if_on") (t.tab 0 (t := (fun K => He.ga K "STEPS", _)) rfl) (He.ba (He.ba m).2).1 (by simp [vS])
  kS_inner := kdct_of (y := "inner_on") (t.tab 0 (t := (fun K => He.ga K "STEPS", _)) rfl) (He.ba (He.ba m).2).1 (by simp [vS])
  kS_either := kdct_of (y := "either_on") (t.tab 0 (t := (fun K => He.ga K "STEPS", _)) rfl) (He.ba (He.ba m).2).1 (by simp [vS])
  kS_out := kdct_of (y := "leave_on") (t.tab 0 (t := (fun K => He.ga K "STEPS", _)) rfl) (He.ba (He.ba m).2).1 (by simp [vS])
  kS_retry := kdct_of (y := "leave_on") (t.tab 0 (t := (fun K => He.ga K "STEPS", _)) rfl) (He.ba (He.ba m).2).1 (by simp [vS])
  kD_new := kdct_of (y := "begins") (t.tab 1 (t := (fun K => He.ga K "DEEDS", _)) rfl) (He.ba (He.ba m).2).2 (by simp [vD])
  kD_walks := kdct_of (y := "walks") (t.tab 1 (t := (fun K => He.ga K "DEEDS", _)) rfl) (He.ba (He.ba m).2).2 (by simp [vD])
  kD_locks := kdct_of (y := "locks") (t.tab 1 (t := (fun K => He.ga K "DEEDS", _)) rfl) (He.ba (He.ba m).2).2 (by simp [vD])
  kD_checks := kdct_of (y := "checks") (t.tab 1 (t := (fun K => He.ga K "DEEDS", _)) rfl) (He.ba (He.ba m).2).2 (by simp [vD])
  kD_backs := kdct_of (y := "backs") (t.tab 1 (t := (fun K => He.ga K "DEEDS", _)) rfl) (He.ba (He.ba m).2).2 (by simp [vD])
  kD_through := kdct_of (y := "rests") (t.tab 1 (t := (fun K => He.ga K "DEEDS", _)) rfl) (He.ba (He.ba m).2).2 (by simp [vD])
  kD_sleeps := kdct_of (y := "rests") (t.tab 1 (t := (fun K => He.ga K "DEEDS", _)) rfl) (He.ba (He.ba m).2).2 (by simp [vD])
  rest := fun H => He.tupB_ok (He.ba m).1 H
theorem run_binds (c : He.SaysD faD fnD K) : ∃ u, RelV (.int 400) u ∧ Binds K (Classical.choose (dd_at (c := c) (x := "run") (st := s_run) (kw := [("most", .int 400)]) 43 rfl)) ["state", "schedule", "most"] [u] := by
  have F := Classical.choose_spec (dd_at (c := c) (x := "run") (st := s_run) (kw := [("most", .int 400)]) 43 rfl)
  obtain ⟨ds, v, b⟩ := F.binds0 (ps := ["state", "schedule", "most"]) 2 (by simp) rfl fun D doc pm an cdv ct us ks l1 l2 => match us, ks, l1, l2 with
    | [_, _], [_], _, _ => ⟨_, _, _, _, _, _, rfl, rfl, rfl⟩
  cases v with
  | cons r v => cases v with
    | nil => exact ⟨_, r, b⟩
end
theorem facts {P : Program} {w : World} {K : PySem.W.Frag} {h : Heap} {mg : Str → Option Value} {f : Addr} (X : K.In h) (G : h.Ns mainGlobals mg) (hfa : mg ("law" : Str) = some (.ref f)) (c : He.SaysX faD fnD tbD [] exD w h K) :
    ∃ fd : FuncData, (∀ (s : Shared) (v : Value), BindsTo s fd ⟨[v], []⟩ [("_law_script", v)]) ∧ ∀ base : Heap, K.In base → base.Ns mainGlobals mg → FnOk P w K mg base CX0 24 f fd ["_law_script"] (spLaw K) := by
  obtain ⟨u, r, b⟩ := run_binds c.t.d
  have e := hfa.symm.trans (txt X G c.t.d c.t c.more).d_law.m
  cases e
  refine ⟨(txt X G c.t.d c.t c.more).d_law.fd, fun s v => ?_, fun base _ _ => ok_law (txt X G c.t.d c.t c.more) (u := u) ⟨r, b⟩⟩
  exact FunD.bindsA (ps := ["_law_script"]) (Classical.choose_spec (dd_at (c := c.t.d) (x := "law") (st := s_law) (kw := []) 56 rfl)) (fun _ _ _ _ _ _ us hl => match us, hl with | [_], _ => rfl) s [v] rfl
abbrev RR : PySem.W.OpenRow := PySem.W.OpenLaw.row PySem.Challenge.rw_cellpacts_k70_whole_fair_gets_quiet
abbrev hkD : PySem.W.Hook := He.hookX 2 faD fnD tbD [] exD
def obD (s : PySem.W.SharedT) : He.AlX := He.obsX 2 faD fnD tbD [] exD (HandSHeadRun.getT s)
theorem obD_eq (s : PySem.W.SharedT) : obD s = hkD.obs s.abs := He.obsX_eq (HandSHeadRun.getT_eq s)
def nmD0 : List Str := ["PactError", "RunError", "NoHand", "is_number", "RESTING", "need_hand", "row_new", "begun", "is_quiet", "with_row", "with_cell", "freed", "given_up", "done_with", "reckoned", "worth", "ON", "fresh", "weighed", "with_slot", "read_on", "write_on", "let_on", "tell_on", "if_on", "inner_on", "either_on", "leave_on", "STEPS", "walk_on"]
def nmD1 : List Str := ["goes_on", "SURE", "pact_of", "gives", "rests", "begins", "reads_cell", "retries", "walks", "locks_next", "written_by", "sure_by", "locks", "checks", "woken_by", "backs", "DEEDS", "step", "LIMIT", "laid_at_once", "stopped", "hand_of", "run", "stays_of", "rounds", "_law_tap", "_law_pick", "_law_number", "_law_amount", "_law_steps"]
def nmD2 : List Str := ["_law_one", "_law_pact", "_law_rounds", "_law_order", "_law_small"]
def nmD : List Str := nmD0 ++ nmD1 ++ nmD2
theorem run_false (w : World) : HandSHeadRun.RunEq RR (PySem.W.view RR.prog [73]) hkD obD 20000 nmD (w.withFollow "special-get-raises" false) := fun os => by kernel_rfl
theorem run_true (w : World) : HandSHeadRun.RunEq RR (PySem.W.view RR.prog [73]) hkD obD 20000 nmD (w.withFollow "special-get-raises" true) := fun os => by kernel_rfl
theorem runD (w : World) : HandSHeadRun.RunEq RR (PySem.W.view RR.prog [73]) hkD obD 20000 nmD w := PySem.W.byRow2 "special-get-raises" (P := fun w => HandSHeadRun.RunEq RR (PySem.W.view RR.prog [73]) hkD obD 20000 nmD w) run_false run_true w
end Wk
open PySem PySem.W PySem.Calls PyProof.Rows
set_option maxRecDepth 100000 in
set_option maxHeartbeats 0 in
theorem PySem.Challenge.cw_cellpacts_k70_whole_fair_gets_quiet_holds : PySem.Challenge.rw_cellpacts_k70_whole_fair_gets_quiet.Holds := by
  w_on; o_law
  refine HandSHeadRun.head_any (r := OpenLaw.row PySem.Challenge.rw_cellpacts_k70_whole_fair_gets_quiet) (q := view (OpenLaw.row PySem.Challenge.rw_cellpacts_k70_whole_fair_gets_quiet).prog [73]) (H := Wk.hkD) (ob := Wk.obD) (M := 20000) (loose := Wk.nmD) (d := HandSHeadRun.topDef (OpenLaw.row PySem.Challenge.rw_cellpacts_k70_whole_fair_gets_quiet).prog 73) (kwd := []) Wk.obD_eq
    (by kernel_rfl) (fun s => by kernel_rfl) Wk.runD (by kernel_rfl) (by kernel_rfl) (by kernel_rfl) (by rfl) (by first | assumption | decide +kernel) (by decide +kernel) ⟨rfl, rfl, rfl, rfl, rfl, by decide +kernel⟩ ?hw ?hc
  case hw => w_witness2
  case hc =>
    refine L2.walk_ofE (l := PySem.Challenge.rw_cellpacts_k70_whole_fair_gets_quiet) (n := 63) (k := 24) (x := "_law_script") (CX := L2.CX0) rfl (by decide) (by kernel_rfl) ⟨rfl, by decide, by decide⟩ ?F (fun _ _ _ _ z => z)
    intro w mg fa h Y G hmg0
    obtain ⟨K, KX, c⟩ := Y
    have hmg : mg ("law" : PySem.Str) = some (.ref fa) := by
      have e : (HandSHeadRun.topDef (OpenLaw.row PySem.Challenge.rw_cellpacts_k70_whole_fair_gets_quiet).prog 73).name = ("law" : PySem.Str) := by kernel_rfl
      rw [← e]
      exact hmg0
    obtain ⟨fd, hb, hF⟩ := Wk.facts (P := (PySem.Challenge.rw_cellpacts_k70_whole_fair_gets_quiet).prog) (w := w) KX G hmg c
    exact ⟨K, fd, Wk.spLaw K, KX, hb, fun H a ns hl _ hS => ⟨a, ns, rfl, hS, hl, fun _ => rfl⟩, hF⟩
