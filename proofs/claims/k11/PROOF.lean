import PyProof.Rows.All
import Wide.All
import OpenK.AllK
import Wide.FinOn
import HandS.ForMost
import HandS.ForExc
import HandS.Evl
import HandS.Strs
import HandS.TupAny
import HandS.TupMul
import HandS.Style
import HandS.Text
import HandS.SetFor
import HandS.IsInst
import PyProof.TupleOfSeq
import HandS.Set
import HandS.SortOrd
import KE.DataEq
import HandS.ExcInit
import HandS.ExcField
import HandS.ClsMeth
import KE.KExcIs
import PySem.Challenge.RW_escortbook_k11_houses_refused
set_option Elab.async false
set_option linter.all false
set_option maxRecDepth 100000
set_option maxHeartbeats 4000000
/-! Eb: data without a heap, cells that change, and how they stand in the heap. -/
namespace Eb
open PySem L2
open Evl (Ex ex_l ex_t)
/-- a value by what it is; mut k: the k-th cell -/
inductive D where
  | non | bl (b : Bool) | int (i : Int) | str (x : Str)
  | tup (xs : List D) | lst (xs : List D)
  | ins (c : Nat) (ds : List D)
  | set (ns : List Int)
  | cel (k : Nat)
  | scr (ns : List Int)
  | ty (n : String)
  | cls (c : Nat)
  /-- a dict that is changed no more, its keys tuples of ints -/
  | dic (ks : List (List Int)) (ds : List D)
  /-- the exception that a suite holds -/
  | exn (c : Nat) (fs : List D)
/-- what a cell holds -/
inductive Cell where
  | lst (xs : List D)
  | dic (ks : List (List Int)) (ds : List D)
  | ins (c : Nat) (ds : List D)
  | dead
def Cell.live : Cell → Bool
  | .dead => false
  | _ => true
structure Exn where
  c : Nat
  fs : List D
/-- the program, the world, what the top has left; the own classes by number, their attributes in order -/
structure Gam where
  P : Program
  w : World
  K : PySem.W.Frag
  cls : Nat → Addr
  flds : Nat → List Str
  /-- in an except suite: the exception's place, class, dict -/
  xc : Option (Addr × Nat × Option Addr)
/-- the cells' addresses; addresses that are hidden for a while -/
structure Th where
  ids : List Addr
  hid : List Addr
abbrev Mu := List Cell
abbrev Rho := List (Option D)

/-- keys and values as the heap has them -/
def tkv (ks : List (List Int)) (xs : List V) : List (List Key × V) := (ks.map fun k => k.map Sum.inl).zip xs
/-- what is no tuple -/
def Solid (o : HO) : Prop := ∀ xs, o ≠ .tup xs
mutual
def Rp (g : Gam) (th : Th) (G : Hp) : D → V → Prop
  | .non, v => v = .non
  | .bl b, v => v = .bl b
  | .int i, v => v = .int i
  | .str x, v => v = .str x
  | .tup ds, v => ∃ a xs, v = .ref a ∧ (G a = some (.tup xs) ∨ (ds.length = 1 ∧ xs = [.str "wait"] ∧ SqT g.K G a xs)) ∧ RpL g th G ds xs
  | .lst ds, v => ∃ a xs, v = .ref a ∧ G a = some (.lst xs) ∧ RpL g th G ds xs
  | .ins c ds, v => ∃ a dx ys xs, v = .ref a ∧ G a = some (.ins (g.cls c) dx ys) ∧ ys = ((g.flds c).take ds.length).zip xs ∧ ds.length ≤ (g.flds c).length ∧ RpL g th G ds xs
  | .set ns, v => ∃ a S, v = .ref a ∧ G a = some (SetO g.w a S ns.length) ∧ ns.Pairwise (· < ·) ∧ ∀ k, S k = true ↔ k ∈ ns
  | .cel k, v => ∃ a, v = .ref a ∧ th.ids[k]? = some a
  | .scr ns, v => ∃ a, v = .ref a ∧ SqL g.K G a (ns.map V.int)
  | .ty n, v => v = .ty n
  | .cls c, v => v = .ref (g.cls c)
  | .dic ks ds, v => ∃ a o xs, v = .ref a ∧ G a = some (.frz o (.dT (tkv ks xs))) ∧ ks.length = ds.length ∧ ks.length ≤ 100000 ∧ ks.Nodup ∧ RpL g th G ds xs
  | .exn c fs, v => ∃ a dd, g.xc = some (a, c, dd) ∧ v = .ref a ∧ ((fs = [] ∧ dd = none) ∨ ∃ da ys xs, dd = some da ∧ G da = some (.xd ys) ∧ ys = (g.flds c).zip xs ∧ RpL g th G fs xs)
def RpL (g : Gam) (th : Th) (G : Hp) : List D → List V → Prop
  | [], vs => vs = []
  | d :: ds, vs => ∃ v r, vs = v :: r ∧ Rp g th G d v ∧ RpL g th G ds r
end
/-- the cells' places -/
def own : List Addr → Mu → List Addr
  | a :: th, c :: mu => if c.live = true then a :: own th mu else own th mu
  | _, _ => []
/-- the heap without the cells -/
def Gz (th : Th) (mu : Mu) (H : Hp) : Hp := fun a => if a ∈ own th.ids mu ∨ a ∈ th.hid then none else H a
def CellOk (g : Gam) (th : Th) (G H : Hp) (a : Addr) : Cell → Prop
  | .lst ds => ∃ xs, H a = some (.lst xs) ∧ RpL g th G ds xs
  | .dic ks ds => ∃ xs, H a = some (.dT (tkv ks xs)) ∧ ks.length = ds.length ∧ ks.length ≤ 100000 ∧ ks.Nodup ∧ RpL g th G ds xs
  | .ins c ds => ∃ dx ys xs, H a = some (.ins (g.cls c) dx ys) ∧ ys = ((g.flds c).take ds.length).zip xs ∧ ds.length ≤ (g.flds c).length ∧ RpL g th G ds xs
  | .dead => True
structure Ok (g : Gam) (th : Th) (mu : Mu) (H : Hp) : Prop where
  len : th.ids.length = mu.length
  nod : (own th.ids mu).Nodup
  cel : ∀ (i : Nat) a c, th.ids[i]? = some a → mu[i]? = some c → CellOk g th (Gz th mu H) H a c
  hid : ∀ a ∈ th.hid, a ∉ own th.ids mu ∧ ∃ o, H a = some o ∧ Solid o
structure Pfx (th th' : Th) : Prop where
  ids : ∃ r, th'.ids = th.ids ++ r
  hid : th'.hid = th.hid

section
variable {g : Gam} {th th' th2 : Th} {mu mu' : Mu} {G G' H H' H2 : Hp}
theorem Pfx.refl : Pfx th th := ⟨⟨[], by simp⟩, rfl⟩
theorem Pfx.trans (a : Pfx th th') (b : Pfx th' th2) : Pfx th th2 := by
  obtain ⟨⟨r, e1⟩, h1⟩ := a
  obtain ⟨⟨q, e2⟩, h2⟩ := b
  exact ⟨⟨r ++ q, by rw [e2, e1, List.append_assoc]⟩, h2.trans h1⟩
theorem Pfx.get (a : Pfx th th') {i : Nat} {x : Addr} (h : th.ids[i]? = some x) : th'.ids[i]? = some x := by
  obtain ⟨⟨r, e1⟩, _⟩ := a
  have hi : i < th.ids.length := (List.getElem?_eq_some_iff.mp h).1
  rw [e1, List.getElem?_append_left hi]
  exact h
mutual
theorem Rp.mono (p : Pfx th th') (e : Ex G G') : ∀ (d : D) (v : V), Rp g th G d v → Rp g th' G' d v
  | .non, v, h => h
  | .bl _, v, h => h
  | .int _, v, h => h
  | .str _, v, h => h
  | .tup ds, v, h => by
    obtain ⟨a, xs, e1, e2, e3⟩ := h
    exact ⟨a, xs, e1, e2.imp (e _ _) fun q => ⟨q.1, q.2.1, ex_t e q.2.2⟩, RpL.mono p e ds xs e3⟩
  | .lst ds, v, h => by
    obtain ⟨a, xs, e1, e2, e3⟩ := h
    exact ⟨a, xs, e1, e _ _ e2, RpL.mono p e ds xs e3⟩
  | .ins c ds, v, h => by
    obtain ⟨a, dx, ys, xs, e1, e2, e3, e4, e5⟩ := h
    exact ⟨a, dx, ys, xs, e1, e _ _ e2, e3, e4, RpL.mono p e ds xs e5⟩
  | .set ns, v, h => by
    obtain ⟨a, S, e1, e2, e3⟩ := h
    exact ⟨a, S, e1, e _ _ e2, e3⟩
  | .cel k, v, h => by
    obtain ⟨a, e1, e2⟩ := h
    exact ⟨a, e1, p.get e2⟩
  | .scr ns, v, h => by
    obtain ⟨a, e1, e2⟩ := h
    exact ⟨a, e1, ex_l e e2⟩
  | .ty _, v, h => h
  | .cls _, v, h => h
  | .dic ks ds, v, h => by
    obtain ⟨a, o, xs, e1, e2, e3, e4, e5, e6⟩ := h
    exact ⟨a, o, xs, e1, e _ _ e2, e3, e4, e5, RpL.mono p e ds xs e6⟩
  | .exn c fs, v, h => by
    obtain ⟨a, dd, e1, e2, h⟩ := h
    refine ⟨a, dd, e1, e2, ?_⟩
    rcases h with h | ⟨da, ys, xs, q1, q2, q3, q4⟩
    · exact .inl h
    · exact .inr ⟨da, ys, xs, q1, e _ _ q2, q3, RpL.mono p e fs xs q4⟩
theorem RpL.mono (p : Pfx th th') (e : Ex G G') : ∀ (ds : List D) (vs : List V), RpL g th G ds vs → RpL g th' G' ds vs
  | [], vs, h => h
  | d :: ds, vs, h => by
    obtain ⟨v, r, e1, e2, e3⟩ := h
    exact ⟨v, r, e1, Rp.mono p e d v e2, RpL.mono p e ds r e3⟩
end
theorem CellOk.mono (p : Pfx th th') (e : Ex G G') {a : Addr} (h : H' a = H a) : ∀ {c : Cell}, CellOk g th G H a c → CellOk g th' G' H' a c
  | .lst ds, x => by
    obtain ⟨xs, e1, e2⟩ := x
    exact ⟨xs, h.trans e1, RpL.mono p e _ _ e2⟩
  | .dic ks ds, x => by
    obtain ⟨xs, e1, e2, e3, e4, e5⟩ := x
    exact ⟨xs, h.trans e1, e2, e3, e4, RpL.mono p e _ _ e5⟩
  | .ins c ds, x => by
    obtain ⟨dx, ys, xs, e1, e2, e3, e4⟩ := x
    exact ⟨dx, ys, xs, h.trans e1, e2, e3, RpL.mono p e _ _ e4⟩
  | .dead, _ => trivial
theorem RpL.length : ∀ {ds : List D} {vs : List V}, RpL g th G ds vs → vs.length = ds.length
  | [], vs, h => by
    rw [show vs = [] from h]
    rfl
  | d :: ds, vs, h => by
    obtain ⟨v, r, e1, e2, e3⟩ := h
    rw [e1, List.length_cons, List.length_cons, RpL.length e3]
theorem RpL.get : ∀ {ds : List D} {vs : List V} {i : Nat} {d : D}, RpL g th G ds vs → ds[i]? = some d → ∃ v, vs[i]? = some v ∧ Rp g th G d v
  | [], vs, i, d, _, e => by simp at e
  | d :: ds, vs, 0, d', h, e => by
    obtain ⟨v, r, e1, e2, e3⟩ := h
    have : d = d' := by simpa using e
    subst this
    exact ⟨v, by rw [e1]; rfl, e2⟩
  | d :: ds, vs, i + 1, d', h, e => by
    obtain ⟨v, r, e1, e2, e3⟩ := h
    obtain ⟨x, q1, q2⟩ := RpL.get (i := i) (d := d') e3 (by simpa using e)
    exact ⟨x, by rw [e1]; simpa using q1, q2⟩
theorem RpL.append : ∀ {ds es : List D} {vs ws : List V}, RpL g th G ds vs → RpL g th G es ws → RpL g th G (ds ++ es) (vs ++ ws)
  | [], es, vs, ws, h, q => by
    rw [show vs = [] from h]
    exact q
  | d :: ds, es, vs, ws, h, q => by
    obtain ⟨v, r, e1, e2, e3⟩ := h
    exact ⟨v, r ++ ws, by rw [e1]; rfl, e2, RpL.append e3 q⟩
theorem RpL.take : ∀ {ds : List D} {vs : List V} (n : Nat), RpL g th G ds vs → RpL g th G (ds.take n) (vs.take n)
  | ds, vs, 0, _ => by
    rw [List.take_zero, List.take_zero]
    exact rfl
  | [], vs, n + 1, h => by
    rw [show vs = [] from h]
    exact rfl
  | d :: ds, vs, n + 1, h => by
    obtain ⟨v, r, e1, e2, e3⟩ := h
    exact ⟨v, r.take n, by rw [e1]; rfl, e2, RpL.take n e3⟩
theorem RpL.drop : ∀ {ds : List D} {vs : List V} (n : Nat), RpL g th G ds vs → RpL g th G (ds.drop n) (vs.drop n)
  | ds, vs, 0, h => by
    rw [List.drop_zero, List.drop_zero]
    exact h
  | [], vs, n + 1, h => by
    rw [show vs = [] from h]
    exact rfl
  | d :: ds, vs, n + 1, h => by
    obtain ⟨v, r, e1, e2, e3⟩ := h
    rw [e1]
    exact RpL.drop n e3
theorem RpL.set : ∀ {ds : List D} {vs : List V} (n : Nat) {d : D} {v : V}, RpL g th G ds vs → Rp g th G d v → RpL g th G (ds.set n d) (vs.set n v)
  | [], vs, n, d, v, h, q => by
    rw [show vs = [] from h]
    exact rfl
  | d' :: ds, vs, 0, d, v, h, q => by
    obtain ⟨x, r, e1, e2, e3⟩ := h
    exact ⟨v, r, by rw [e1]; rfl, q, e3⟩
  | d' :: ds, vs, n + 1, d, v, h, q => by
    obtain ⟨x, r, e1, e2, e3⟩ := h
    exact ⟨x, r.set n v, by rw [e1]; rfl, e2, RpL.set n e3 q⟩
theorem RpL.replicate {d : D} {v : V} (h : Rp g th G d v) : ∀ n : Nat, RpL g th G (List.replicate n d) (List.replicate n v)
  | 0 => rfl
  | n + 1 => ⟨v, List.replicate n v, rfl, h, RpL.replicate h n⟩

/-! ### the cells' places -/
theorem own_mem : ∀ {th : List Addr} {mu : Mu} {a : Addr}, a ∈ own th mu ↔ ∃ (i : Nat) (c : Cell), th[i]? = some a ∧ mu[i]? = some c ∧ c.live = true
  | [], mu, a => by simp [own]
  | b :: th, [], a => by simp [own]
  | b :: th, c :: mu, a => by
    unfold own
    constructor
    · intro h
      by_cases hc : c.live = true
      · rw [if_pos hc] at h
        rcases List.mem_cons.mp h with h | h
        · exact ⟨0, c, by simp [h], by simp, hc⟩
        · obtain ⟨i, c', e1, e2, e3⟩ := own_mem.mp h
          exact ⟨i + 1, c', by simpa using e1, by simpa using e2, e3⟩
      · rw [if_neg hc] at h
        obtain ⟨i, c', e1, e2, e3⟩ := own_mem.mp h
        exact ⟨i + 1, c', by simpa using e1, by simpa using e2, e3⟩
    · rintro ⟨i, c', e1, e2, e3⟩
      cases i with
      | zero =>
        have q1 : b = a := by simpa using e1
        have q2 : c = c' := by simpa using e2
        subst q1 q2
        rw [if_pos e3]
        exact List.mem_cons_self
      | succ i =>
        have m : a ∈ own th mu := own_mem.mpr ⟨i, c', by simpa using e1, by simpa using e2, e3⟩
        by_cases hc : c.live = true
        · rw [if_pos hc]; exact List.mem_cons_of_mem _ m
        · rw [if_neg hc]; exact m
theorem own_inj : ∀ {th : List Addr} {mu : Mu} {i j : Nat} {a : Addr} {c c' : Cell}, (own th mu).Nodup → th[i]? = some a → th[j]? = some a → mu[i]? = some c → mu[j]? = some c' → c.live = true → c'.live = true → i = j
  | [], mu, i, j, a, c, c', _, h, _, _, _, _, _ => by simp at h
  | b :: th, [], i, j, a, c, c', _, _, _, h, _, _, _ => by simp at h
  | b :: th, d :: mu, i, j, a, c, c', nd, h1, h2, h3, h4, l1, l2 => by
    unfold own at nd
    cases i with
    | zero =>
      cases j with
      | zero => rfl
      | succ j =>
        have q1 : b = a := by simpa using h1
        have q2 : d = c := by simpa using h3
        subst q1 q2
        rw [if_pos l1] at nd
        exact absurd (own_mem.mpr ⟨j, c', by simpa using h2, by simpa using h4, l2⟩) (List.nodup_cons.mp nd).1
    | succ i =>
      cases j with
      | zero =>
        have q1 : b = a := by simpa using h2
        have q2 : d = c' := by simpa using h4
        subst q1 q2
        rw [if_pos l2] at nd
        exact absurd (own_mem.mpr ⟨i, c, by simpa using h1, by simpa using h3, l1⟩) (List.nodup_cons.mp nd).1
      | succ j =>
        have nd' : (own th mu).Nodup := by
          by_cases hd : d.live = true
          · rw [if_pos hd] at nd; exact (List.nodup_cons.mp nd).2
          · rw [if_neg hd] at nd; exact nd
        have := own_inj (th := th) (mu := mu) (i := i) (j := j) nd' (by simpa using h1) (by simpa using h2) (by simpa using h3) (by simpa using h4) l1 l2
        omega
/-- which places are cells' depends on liveness alone -/
theorem own_set_live : ∀ {th : List Addr} {mu : Mu} {i : Nat} {c c' : Cell}, mu[i]? = some c → c.live = c'.live → own th (mu.set i c') = own th mu
  | [], mu, i, c, c', _, _ => by simp [own]
  | b :: th, [], i, c, c', h, _ => by simp at h
  | b :: th, d :: mu, 0, c, c', h, l => by
    have q : d = c := by simpa using h
    subst q
    show own (b :: th) (c' :: mu) = own (b :: th) (d :: mu)
    unfold own
    rw [l]
  | b :: th, d :: mu, i + 1, c, c', h, l => by
    show own (b :: th) (d :: mu.set i c') = own (b :: th) (d :: mu)
    unfold own
    rw [own_set_live (i := i) (by simpa using h) l]
theorem own_app : ∀ {th : List Addr} {mu : Mu} {p : Addr} {c : Cell}, th.length = mu.length → c.live = true → own (th ++ [p]) (mu ++ [c]) = own th mu ++ [p]
  | [], [], p, c, _, l => by simp [own, l]
  | [], _ :: _, p, c, h, _ => by simp at h
  | _ :: _, [], p, c, h, _ => by simp at h
  | a :: th, d :: mu, p, c, h, l => by
    show own (a :: (th ++ [p])) (d :: (mu ++ [c])) = own (a :: th) (d :: mu) ++ [p]
    unfold own
    rw [own_app (by simpa using h) l]
    by_cases hd : d.live = true
    · rw [if_pos hd, if_pos hd]; rfl
    · rw [if_neg hd, if_neg hd]
theorem CellOk.there {a : Addr} {c : Cell} (h : CellOk g th G H a c) (l : c.live = true) : ∃ o, H a = some o := by
  cases c with
  | lst ds => obtain ⟨_, e, _⟩ := h; exact ⟨_, e⟩
  | dic ks ds => obtain ⟨_, e, _⟩ := h; exact ⟨_, e⟩
  | ins c ds => obtain ⟨_, _, _, e, _⟩ := h; exact ⟨_, e⟩
  | dead => cases l
theorem CellOk.solid {a : Addr} {c : Cell} (h : CellOk g th G H a c) (l : c.live = true) : ∃ o, H a = some o ∧ Solid o := by
  cases c with
  | lst ds => obtain ⟨_, e, _⟩ := h; exact ⟨_, e, fun _ z => nomatch z⟩
  | dic ks ds => obtain ⟨_, e, _⟩ := h; exact ⟨_, e, fun _ z => nomatch z⟩
  | ins c ds => obtain ⟨_, _, _, e, _⟩ := h; exact ⟨_, e, fun _ z => nomatch z⟩
  | dead => cases l
theorem Ok.solid (o : Ok g th mu H) {a : Addr} (h : a ∈ own th.ids mu) : ∃ u, H a = some u ∧ Solid u := by
  obtain ⟨i, c, e1, e2, e3⟩ := own_mem.mp h
  exact (o.cel i a c e1 e2).solid e3
theorem Ok.there (o : Ok g th mu H) {a : Addr} (h : a ∈ own th.ids mu) : ∃ u, H a = some u := by
  obtain ⟨i, c, e1, e2, e3⟩ := own_mem.mp h
  exact (o.cel i a c e1 e2).there e3
theorem Ok.new (o : Ok g th mu H) {p : Addr} (h : H p = none) : ¬ (p ∈ own th.ids mu ∨ p ∈ th.hid) := fun m => by
  rcases m with m | m
  · obtain ⟨u, e⟩ := o.there m
    rw [h] at e; cases e
  · obtain ⟨_, u, e, _⟩ := o.hid p m
    rw [h] at e; cases e
theorem Gz_none {p : Addr} (h : H p = none) : Gz th mu H p = none := by
  unfold Gz
  split
  · rfl
  · exact h
theorem Gz_ex (e : Ex H H') : Ex (Gz th mu H) (Gz th mu H') := fun a u q => by
  unfold Gz at q ⊢
  by_cases m : a ∈ own th.ids mu ∨ a ∈ th.hid
  · rw [if_pos m] at q; cases q
  · rw [if_neg m] at q ⊢; exact e a u q
theorem Gz_sub : Ex (Gz th mu H) H := fun a u q => by
  unfold Gz at q
  by_cases m : a ∈ own th.ids mu ∨ a ∈ th.hid
  · rw [if_pos m] at q; cases q
  · rw [if_neg m] at q; exact q
/-- the heap grows -/
theorem Ok.ex (o : Ok g th mu H) (e : Ex H H') : Ok g th mu H' := ⟨o.len, o.nod, fun i a c e1 e2 => by
  have q := o.cel i a c e1 e2
  by_cases l : c.live = true
  · obtain ⟨u, hu⟩ := q.there l
    exact q.mono Pfx.refl (Gz_ex e) ((e a u hu).trans hu.symm)
  · cases c with
    | dead => trivial
    | _ => exact absurd rfl l, fun a m => by
  obtain ⟨n, u, h, su⟩ := o.hid a m
  exact ⟨n, u, e a u h, su⟩⟩
/-- one more cell's place -/
def Th.add (th : Th) (p : Addr) : Th := ⟨th.ids ++ [p], th.hid⟩
theorem Pfx.add {p : Addr} : Pfx th (th.add p) := ⟨⟨[p], rfl⟩, rfl⟩
/-- a new cell -/
theorem Ok.push (o : Ok g th mu H) {p : Addr} {u : HO} {c : Cell} (hp : H p = none) (l : c.live = true)
    (h : ∀ th' G', Pfx th th' → Ex (Gz th mu H) G' → CellOk g th' G' (upd H p u) p c) : Ok g (th.add p) (mu ++ [c]) (upd H p u) ∧ Gz (th.add p) (mu ++ [c]) (upd H p u) = Gz th mu H := by
  have np := o.new hp
  have ea : own (th.add p).ids (mu ++ [c]) = own th.ids mu ++ [p] := own_app o.len l
  have eg : Gz (th.add p) (mu ++ [c]) (upd H p u) = Gz th mu H := by
    funext a
    unfold Gz
    rw [ea]
    show (if a ∈ own th.ids mu ++ [p] ∨ a ∈ th.hid then none else upd H p u a) = if a ∈ own th.ids mu ∨ a ∈ th.hid then none else H a
    by_cases ha : a = p
    · subst ha
      rw [if_pos (by simp), if_neg np, hp]
    · by_cases m : a ∈ own th.ids mu ∨ a ∈ th.hid
      · rw [if_pos (by rcases m with m | m <;> simp [m]), if_pos m]
      · rw [if_neg (by simpa [ha] using m), if_neg m, upd_ne ha]
  refine ⟨⟨by simp [Th.add, o.len], ?_, fun i a d e1 e2 => ?_, fun a m => ?_⟩, eg⟩
  · rw [ea]
    refine List.nodup_append.mpr ⟨o.nod, by simp, fun x hx y hy => ?_⟩
    rintro rfl
    exact np (.inl (by simpa [List.mem_singleton.mp hy] using hx))
  · rw [eg]
    have e1 : (th.ids ++ [p])[i]? = some a := e1
    by_cases hi : i < th.ids.length
    · rw [List.getElem?_append_left hi] at e1
      rw [List.getElem?_append_left (by rw [← o.len]; exact hi)] at e2
      have q := o.cel i a d e1 e2
      by_cases ld : d.live = true
      · obtain ⟨x, hx⟩ := q.there ld
        exact q.mono Pfx.add (fun _ _ z => z) (upd_ne (ne_of_none hx hp))
      · cases d with
        | dead => trivial
        | _ => exact absurd rfl ld
    · have h1 : i = th.ids.length := by
        have := (List.getElem?_eq_some_iff.mp e1).1
        simp at this; omega
      subst h1
      have q1 : p = a := by simpa using e1
      have q2 : c = d := by
        rw [o.len] at e2
        simpa using e2
      subst q1 q2
      exact h _ _ Pfx.add (fun _ _ z => z)
  · obtain ⟨n, x, hx, su⟩ := o.hid a m
    have ne : a ≠ p := ne_of_none hx hp
    refine ⟨?_, x, by rw [upd_ne ne]; exact hx, su⟩
    rw [ea]
    simpa [ne] using n
/-- a cell is written -/
theorem Ok.write (o : Ok g th mu H) {i : Nat} {a : Addr} {c c' : Cell} {u : HO} (ha : th.ids[i]? = some a) (hc : mu[i]? = some c) (l : c.live = true) (l' : c'.live = true)
    (h : CellOk g th (Gz th mu H) (upd H a u) a c') : Ok g th (mu.set i c') (upd H a u) ∧ Gz th (mu.set i c') (upd H a u) = Gz th mu H ∧ ∀ b ∈ th.hid, upd H a u b = H b := by
  have eo : own th.ids (mu.set i c') = own th.ids mu := own_set_live hc (l.trans l'.symm)
  have ma : a ∈ own th.ids mu := own_mem.mpr ⟨i, c, ha, hc, l⟩
  have eg : Gz th (mu.set i c') (upd H a u) = Gz th mu H := by
    funext b
    unfold Gz
    rw [eo]
    by_cases m : b ∈ own th.ids mu ∨ b ∈ th.hid
    · rw [if_pos m, if_pos m]
    · rw [if_neg m, if_neg m, upd_ne (fun z => m (.inl (by rw [z]; exact ma)))]
  have nh : ∀ b ∈ th.hid, b ≠ a := fun b m z => (o.hid b m).1 (by rw [z]; exact ma)
  refine ⟨⟨by simp [o.len], by rw [eo]; exact o.nod, fun j b d e1 e2 => ?_, fun b m => ?_⟩, eg, fun b m => upd_ne (nh b m)⟩
  · rw [eg]
    by_cases hj : j = i
    · subst hj
      rw [ha] at e1; cases e1
      have : c' = d := by
        rw [List.getElem?_set_self ((List.getElem?_eq_some_iff.mp hc).1)] at e2
        exact Option.some.inj e2
      subst this
      exact h
    · rw [List.getElem?_set_ne (Ne.symm hj)] at e2
      have q := o.cel j b d e1 e2
      by_cases ld : d.live = true
      · have nb : b ≠ a := by
          rintro rfl
          exact hj (own_inj o.nod e1 ha e2 hc ld l)
        exact q.mono Pfx.refl (fun _ _ z => z) (upd_ne nb)
      · cases d with
        | dead => trivial
        | _ => exact absurd rfl ld
  · obtain ⟨n, x, hx, su⟩ := o.hid b m
    exact ⟨by rw [eo]; exact n, x, by rw [upd_ne (nh b m)]; exact hx, su⟩
/-- a cell is frozen -/
theorem Ok.freeze (o : Ok g th mu H) {i : Nat} {a : Addr} {c : Cell} (ha : th.ids[i]? = some a) (hc : mu[i]? = some c) (l : c.live = true) :
    Ok g th (mu.set i .dead) H ∧ Ex (Gz th mu H) (Gz th (mu.set i .dead) H) ∧ Gz th (mu.set i .dead) H a = H a := by
  have hi : i < mu.length := (List.getElem?_eq_some_iff.mp hc).1
  have sub : ∀ b, b ∈ own th.ids (mu.set i .dead) → b ∈ own th.ids mu ∧ b ≠ a := fun b m => by
    obtain ⟨j, d, e1, e2, e3⟩ := own_mem.mp m
    have hj : j ≠ i := by
      rintro rfl
      rw [List.getElem?_set_self hi] at e2
      have := Option.some.inj e2
      subst this
      cases e3
    rw [List.getElem?_set_ne (Ne.symm hj)] at e2
    refine ⟨own_mem.mpr ⟨j, d, e1, e2, e3⟩, ?_⟩
    rintro rfl
    exact hj (own_inj o.nod e1 ha e2 hc e3 l)
  have ee : Ex (Gz th mu H) (Gz th (mu.set i .dead) H) := fun b u q => by
    unfold Gz at q ⊢
    by_cases m : b ∈ own th.ids mu ∨ b ∈ th.hid
    · rw [if_pos m] at q; cases q
    · rw [if_neg m] at q
      rw [if_neg (fun z => m (z.imp (fun z => (sub b z).1) id))]
      exact q
  refine ⟨⟨by simp [o.len], ?_, fun j b d e1 e2 => ?_, fun b m => ?_⟩, ee, ?_⟩
  · have gen : ∀ (th : List Addr) (mu : Mu) (i : Nat), (own th (mu.set i .dead)).Sublist (own th mu) := by
      intro th
      induction th with
      | nil => intro mu i; simp [own]
      | cons b th ih =>
        intro mu i
        cases mu with
        | nil => simp [own]
        | cons d mu =>
          cases i with
          | zero =>
            show (own (b :: th) (.dead :: mu)).Sublist (own (b :: th) (d :: mu))
            unfold own
            rw [if_neg (by simp [Cell.live])]
            by_cases hd : d.live = true
            · rw [if_pos hd]; exact List.sublist_cons_self _ _
            · rw [if_neg hd]; exact List.Sublist.refl _
          | succ i =>
            show (own (b :: th) (d :: mu.set i .dead)).Sublist (own (b :: th) (d :: mu))
            unfold own
            by_cases hd : d.live = true
            · rw [if_pos hd, if_pos hd]; exact (ih mu i).cons_cons _
            · rw [if_neg hd, if_neg hd]; exact ih mu i
    exact o.nod.sublist (gen th.ids mu i)
  · by_cases hj : j = i
    · subst hj
      rw [List.getElem?_set_self hi] at e2
      have := Option.some.inj e2
      subst this
      trivial
    · rw [List.getElem?_set_ne (Ne.symm hj)] at e2
      exact (o.cel j b d e1 e2).mono Pfx.refl ee rfl
  · obtain ⟨n, x, hx, su⟩ := o.hid b m
    exact ⟨fun z => n (sub b z).1, x, hx, su⟩
  · unfold Gz
    have nh : a ∉ th.hid := fun m => (o.hid a m).1 (own_mem.mpr ⟨i, c, ha, hc, l⟩)
    rw [if_neg fun m => m.elim (fun m => (sub a m).2 rfl) nh]
/-! ### an object is hidden for a while (a list that a comprehension makes) -/
def Th.hide (th : Th) (p : Addr) : Th := ⟨th.ids, p :: th.hid⟩
end
mutual
theorem Rp.ids {g : Gam} {th th' : Th} {G : Hp} (e : th'.ids = th.ids) : ∀ (d : D) (v : V), Rp g th G d v → Rp g th' G d v
  | .non, v, h => h
  | .bl _, v, h => h
  | .int _, v, h => h
  | .str _, v, h => h
  | .tup ds, v, h => by
    obtain ⟨a, xs, e1, e2, e3⟩ := h
    exact ⟨a, xs, e1, e2, RpL.ids e ds xs e3⟩
  | .lst ds, v, h => by
    obtain ⟨a, xs, e1, e2, e3⟩ := h
    exact ⟨a, xs, e1, e2, RpL.ids e ds xs e3⟩
  | .ins c ds, v, h => by
    obtain ⟨a, dx, ys, xs, e1, e2, e3, e4, e5⟩ := h
    exact ⟨a, dx, ys, xs, e1, e2, e3, e4, RpL.ids e ds xs e5⟩
  | .set ns, v, h => h
  | .cel k, v, h => by
    obtain ⟨a, e1, e2⟩ := h
    exact ⟨a, e1, by rw [e]; exact e2⟩
  | .scr ns, v, h => h
  | .ty _, v, h => h
  | .cls _, v, h => h
  | .dic ks ds, v, h => by
    obtain ⟨a, o, xs, e1, e2, e3, e4, e5, e6⟩ := h
    exact ⟨a, o, xs, e1, e2, e3, e4, e5, RpL.ids e ds xs e6⟩
  | .exn c fs, v, h => by
    obtain ⟨a, dd, e1, e2, h⟩ := h
    refine ⟨a, dd, e1, e2, ?_⟩
    rcases h with h | ⟨da, ys, xs, q1, q2, q3, q4⟩
    · exact .inl h
    · exact .inr ⟨da, ys, xs, q1, q2, q3, RpL.ids e fs xs q4⟩
theorem RpL.ids {g : Gam} {th th' : Th} {G : Hp} (e : th'.ids = th.ids) : ∀ (ds : List D) (vs : List V), RpL g th G ds vs → RpL g th' G ds vs
  | [], vs, h => h
  | d :: ds, vs, h => by
    obtain ⟨v, r, e1, e2, e3⟩ := h
    exact ⟨v, r, e1, Rp.ids e d v e2, RpL.ids e ds r e3⟩
end
theorem CellOk.ids {g : Gam} {th th' : Th} {G H : Hp} {a : Addr} (e : th'.ids = th.ids) : ∀ {c : Cell}, CellOk g th G H a c → CellOk g th' G H a c
  | .lst ds, x => by
    obtain ⟨xs, e1, e2⟩ := x
    exact ⟨xs, e1, RpL.ids e _ _ e2⟩
  | .dic ks ds, x => by
    obtain ⟨xs, e1, e2, e3, e4, e5⟩ := x
    exact ⟨xs, e1, e2, e3, e4, RpL.ids e _ _ e5⟩
  | .ins c ds, x => by
    obtain ⟨dx, ys, xs, e1, e2, e3, e4⟩ := x
    exact ⟨dx, ys, xs, e1, e2, e3, RpL.ids e _ _ e4⟩
  | .dead, _ => trivial
section
variable {g : Gam} {th : Th} {mu : Mu} {H : Hp} {p : Addr} {o o' : HO}
/-- hidden, an object may be what it will -/
theorem Gz_hide (hn : ¬ (p ∈ own th.ids mu ∨ p ∈ th.hid)) : Gz (th.hide p) mu (upd H p o) = Gz (th.hide p) mu H := by
  funext a
  unfold Gz
  by_cases m : a ∈ own (th.hide p).ids mu ∨ a ∈ (th.hide p).hid
  · rw [if_pos m, if_pos m]
  · rw [if_neg m, if_neg m, upd_ne]
    rintro rfl
    exact m (.inr List.mem_cons_self)
theorem Gz_hide0 (h : H p = none) : Gz (th.hide p) mu H = Gz th mu H := by
  funext a
  unfold Gz
  show (if a ∈ own th.ids mu ∨ a ∈ p :: th.hid then none else H a) = if a ∈ own th.ids mu ∨ a ∈ th.hid then none else H a
  by_cases ha : a = p
  · subst ha
    rw [if_pos (.inr List.mem_cons_self), h]
    split <;> rfl
  · by_cases m : a ∈ own th.ids mu ∨ a ∈ th.hid
    · rw [if_pos (m.imp id (List.mem_cons_of_mem _)), if_pos m]
    · rw [if_neg (by simpa [ha] using m), if_neg m]
theorem Ok.hide (k : Ok g th mu H) (h : H p = none) (so : Solid o) : Ok g (th.hide p) mu (upd H p o) := by
  have np := k.new h
  have eg : Gz (th.hide p) mu (upd H p o) = Gz th mu H := (Gz_hide np).trans (Gz_hide0 h)
  refine ⟨k.len, k.nod, fun i a c e1 e2 => ?_, fun a m => ?_⟩
  · rw [eg]
    have q := k.cel i a c e1 e2
    by_cases l : c.live = true
    · obtain ⟨u, hu⟩ := q.there l
      exact CellOk.ids (th := th) (th' := th.hide p) rfl (q.mono Pfx.refl (fun _ _ z => z) (upd_ne (ne_of_none hu h)))
    · cases c with
      | dead => trivial
      | _ => exact absurd rfl l
  · rcases List.mem_cons.mp m with rfl | m
    · exact ⟨fun z => np (.inl z), o, upd_same, so⟩
    · obtain ⟨n, u, hu, su⟩ := k.hid a m
      exact ⟨n, u, by rw [upd_ne (ne_of_none hu h)]; exact hu, su⟩
/-- the hidden object changes -/
theorem Ok.rehide (k : Ok g (th.hide p) mu H) (hn : p ∉ own th.ids mu) (so : Solid o) : Ok g (th.hide p) mu (upd H p o) := by
  have eg : Gz (th.hide p) mu (upd H p o) = Gz (th.hide p) mu H := by
    funext a
    unfold Gz
    by_cases m : a ∈ own (th.hide p).ids mu ∨ a ∈ (th.hide p).hid
    · rw [if_pos m, if_pos m]
    · rw [if_neg m, if_neg m, upd_ne]
      rintro rfl
      exact m (.inr List.mem_cons_self)
  refine ⟨k.len, k.nod, fun i a c e1 e2 => ?_, fun a m => ?_⟩
  · rw [eg]
    have q := k.cel i a c e1 e2
    by_cases l : c.live = true
    · have na : a ≠ p := by
        rintro rfl
        exact hn (own_mem.mpr ⟨i, c, e1, e2, l⟩)
      exact q.mono Pfx.refl (fun _ _ z => z) (upd_ne na)
    · cases c with
      | dead => trivial
      | _ => exact absurd rfl l
  · obtain ⟨n, u, hu, su⟩ := k.hid a m
    by_cases ha : a = p
    · subst ha; exact ⟨n, o, upd_same, so⟩
    · exact ⟨n, u, by rw [upd_ne ha]; exact hu, su⟩
/-- .. and is shown again -/
theorem Ok.unhide (k : Ok g (th.hide p) mu H) (nh : p ∉ th.hid) : Ok g th mu H ∧ Ex (Gz (th.hide p) mu H) (Gz th mu H) ∧ Gz th mu H p = H p := by
  have ee : Ex (Gz (th.hide p) mu H) (Gz th mu H) := fun a u q => by
    unfold Gz at q ⊢
    by_cases m : a ∈ own (th.hide p).ids mu ∨ a ∈ (th.hide p).hid
    · rw [if_pos m] at q; cases q
    · rw [if_neg m] at q
      rw [if_neg fun z => m (z.imp id (List.mem_cons_of_mem _))]
      exact q
  refine ⟨⟨k.len, k.nod, fun i a c e1 e2 => CellOk.ids (th := th.hide p) (th' := th) rfl ((k.cel i a c e1 e2).mono Pfx.refl ee rfl), fun a m => k.hid a (List.mem_cons_of_mem _ m)⟩, ee, ?_⟩
  unfold Gz
  rw [if_neg fun z => z.elim (fun z => (k.hid p List.mem_cons_self).1 z) nh]
end
end Eb

/-! Eb: what an expression and a statement do, by data; the canonical readings. -/
namespace Eb
open PySem L2
open Evl (Ex ex_l ex_t)
inductive Rs (α : Type) where
  | ok (a : α)
  | er (x : Exn)
abbrev M (α : Type) := Rho → Mu → Option (Rs α × Mu)
abbrev ME := M D
inductive Out where
  | nx (r : Rho) | rt (d : D) | bk (r : Rho) | ct (r : Rho) | er (x : Exn) (r : Rho)
abbrev MS := Rho → Mu → Option (Out × Mu)
abbrev Phi := List D → Mu → Option (Rs D × Mu)

structure Rl (g : Gam) (rh : Rho) (mu : Mu) (th : Th) (σ : L2.St) (H : Hp) : Prop where
  ok : Ok g th mu H
  len : rh.length = σ.length
  slt : ∀ (i : Nat) d, rh[i]? = some (some d) → ∃ v, σ[i]? = some (some v) ∧ Rp g th (Gz th mu H) d v
/-- the state goes on -/
structure Fw (g : Gam) (th : Th) (mu : Mu) (H : Hp) (th' : Th) (mu' : Mu) (H' : Hp) : Prop where
  pf : Pfx th th'
  ok : Ok g th' mu' H'
  ex : Ex (Gz th mu H) (Gz th' mu' H')
  hd : ∀ a ∈ th.hid, H' a = H a
def RpX (g : Gam) (th : Th) (G : Hp) (x : Exn) (cls : Value) (dd : Option Addr) : Prop :=
  cls = .ref (g.cls x.c) ∧ ((x.fs = [] ∧ dd = none) ∨ ∃ da ys xs, dd = some da ∧ G da = some (.xd ys) ∧ ys = (g.flds x.c).zip xs ∧ RpL g th G x.fs xs)
section
variable {g : Gam} {th th1 th2 : Th} {mu mu1 mu2 : Mu} {H H1 H2 : Hp} {rh : Rho} {σ : L2.St}
theorem Fw.refl (o : Ok g th mu H) : Fw g th mu H th mu H := ⟨Pfx.refl, o, fun _ _ z => z, fun _ _ => rfl⟩
theorem Fw.trans (a : Fw g th mu H th1 mu1 H1) (b : Fw g th1 mu1 H1 th2 mu2 H2) : Fw g th mu H th2 mu2 H2 := ⟨a.pf.trans b.pf, b.ok, a.ex.trans b.ex, fun x m => (b.hd x (by rw [a.pf.hid]; exact m)).trans (a.hd x m)⟩
theorem Fw.heap (o : Ok g th mu H) (e : Ex H H1) : Fw g th mu H th mu H1 := ⟨Pfx.refl, o.ex e, Gz_ex e, fun a m => by
  obtain ⟨_, u, hu, _⟩ := o.hid a m
  rw [hu]; exact e a u hu⟩
theorem Rl.fw (r : Rl g rh mu th σ H) (f : Fw g th mu H th1 mu1 H1) : Rl g rh mu1 th1 σ H1 := ⟨f.ok, r.len, fun i d e => by
  obtain ⟨v, e1, e2⟩ := r.slt i d e
  exact ⟨v, e1, e2.mono f.pf f.ex⟩⟩
end

/-! ### readings -/
section
variable {α β α' β' : Type}
def bindM (m : M α) (k : α → M β) : M β := fun rh mu => match m rh mu with
  | some (.ok a, mu1) => k a rh mu1
  | some (.er x, mu1) => some (.er x, mu1)
  | none => none
def canAt (g : Gam) (W : WX) (R : Th → Hp → α → β → Prop) (m : M α) (rh : Rho) (mu : Mu) (th : Th) (σ : L2.St) (H : Hp) (Q : β → Hp → Prop) : Prop :=
  ∃ r mu', m rh mu = some (r, mu') ∧ match r with
    | .ok a => ∀ th' b H', Fw g th mu H th' mu' H' → R th' (Gz th' mu' H') a b → Q b H'
    | .er x => ∀ th' cls dd H', Fw g th mu H th' mu' H' → RpX g th' (Gz th' mu' H') x cls dd → W cls dd σ H'
def can (g : Gam) (W : WX) (R : Th → Hp → α → β → Prop) (m : M α) : L2.St → Hp → (β → Hp → Prop) → Prop := fun σ H Q =>
  ∃ rh mu th, Rl g rh mu th σ H ∧ canAt g W R m rh mu th σ H Q
variable {g : Gam} {W : WX} {R : Th → Hp → α → β → Prop} {R' : Th → Hp → α' → β' → Prop} {rh : Rho} {mu : Mu} {th : Th} {σ : L2.St} {H : Hp}
theorem canAt_bind {m : M α} {k : α → M α'} {Q : β' → Hp → Prop} (r : Rl g rh mu th σ H) (h : canAt g W R' (bindM m k) rh mu th σ H Q) :
    canAt g W R m rh mu th σ H fun b H1 => ∃ a mu1 th1, Fw g th mu H th1 mu1 H1 ∧ R th1 (Gz th1 mu1 H1) a b ∧ Rl g rh mu1 th1 σ H1 ∧ canAt g W R' (k a) rh mu1 th1 σ H1 Q := by
  obtain ⟨s, mu', e, q⟩ := h
  unfold bindM at e
  cases hm : m rh mu with
  | none => rw [hm] at e; cases e
  | some p =>
    obtain ⟨t, mu1⟩ := p
    rw [hm] at e
    cases t with
    | er x =>
      have e' : (Rs.er x, mu1) = (s, mu') := Option.some.inj e
      cases e'
      exact ⟨.er x, _, hm, q⟩
    | ok a =>
      refine ⟨.ok a, mu1, hm, fun th1 b H1 f hr => ⟨a, mu1, th1, f, hr, r.fw f, s, mu', e, ?_⟩⟩
      cases s with
      | ok a' => exact fun th' b' H' f' hr' => q th' b' H' (f.trans f') hr'
      | er x => exact fun th' cls dd H' f' hr' => q th' cls dd H' (f.trans f') hr'
theorem canAt.imp {m : M α} {Q Q' : β → Hp → Prop} (h : canAt g W R m rh mu th σ H Q) (k : ∀ b H', Q b H' → Q' b H') : canAt g W R m rh mu th σ H Q' := by
  obtain ⟨s, mu', e, q⟩ := h
  refine ⟨s, mu', e, ?_⟩
  cases s with
  | ok a => exact fun th' b H' f hr => k _ _ (q th' b H' f hr)
  | er x => exact q
theorem can_bind {m : M α} {k : α → M α'} {Q : β' → Hp → Prop} (h : can g W R' (bindM m k) σ H Q) :
    can g W R m σ H fun b H1 => ∃ a rh mu1 th1, R th1 (Gz th1 mu1 H1) a b ∧ Rl g rh mu1 th1 σ H1 ∧ canAt g W R' (k a) rh mu1 th1 σ H1 Q := by
  obtain ⟨rh, mu, th, r, h⟩ := h
  exact ⟨rh, mu, th, r, (canAt_bind r h).imp fun b H' ⟨a, mu1, th1, _, q⟩ => ⟨a, rh, mu1, th1, q⟩⟩
theorem can.imp {m : M α} {Q Q' : β → Hp → Prop} (h : can g W R m σ H Q) (k : ∀ b H', Q b H' → Q' b H') : can g W R m σ H Q' := by
  obtain ⟨rh, mu, th, r, h⟩ := h
  exact ⟨rh, mu, th, r, h.imp k⟩
end
abbrev RE (g : Gam) : Th → Hp → D → V → Prop := fun th G d v => Rp g th G d v
abbrev RA (g : Gam) : Th → Hp → List D → List V → Prop := fun th G d v => RpL g th G d v
abbrev RT : Th → Hp → Bool → Bool → Prop := fun _ _ a b => a = b
abbrev canE (g : Gam) (W : WX) (m : ME) : TE := can g W (RE g) m
abbrev canT (g : Gam) (W : WX) (m : M Bool) : TT := can g W RT m
abbrev canA (g : Gam) (W : WX) (m : M (List D)) : TA := can g W (RA g) m
/-- a pure step on data -/
def lift {α : Type} (f : Mu → Option α) : M α := fun _ mu => (f mu).map fun a => (.ok a, mu)
/-- how a pure step is met: from a state where it gives a, its reading holds -/
theorem canAt_lift {α β : Type} {g : Gam} {W : WX} {R : Th → Hp → α → β → Prop} {f : Mu → Option α} {rh : Rho} {mu : Mu} {th : Th} {σ : L2.St} {H : Hp} {Q : β → Hp → Prop} (r : Rl g rh mu th σ H) (h : canAt g W R (lift f) rh mu th σ H Q) :
    ∃ a, f mu = some a ∧ ∀ th' b H', Fw g th mu H th' mu H' → R th' (Gz th' mu H') a b → Q b H' := by
  obtain ⟨s, mu', e, q⟩ := h
  unfold lift at e
  cases hf : f mu with
  | none => rw [hf] at e; cases e
  | some a =>
    rw [hf] at e
    have e' : (Rs.ok a, mu) = (s, mu') := Option.some.inj e
    cases e'
    exact ⟨a, rfl, q⟩

/-! ### rules -/
section
variable {X : Cx} {g : Gam} {W : WX} {e a b c : Expr} {es : List Expr} {pos : Pos} {ma mb mc : ME} {mt mt' : M Bool}
theorem PEimp {t t' : TE} (h : PE X e t) (q : ∀ σ H Q, t' σ H Q → t σ H Q) : PE X e t' := ⟨fun pins s σ H Q I hw => h.run pins s σ H Q I (q _ _ _ hw)⟩
theorem PTimp {t t' : TT} (h : PT X e t) (q : ∀ σ H Q, t' σ H Q → t σ H Q) : PT X e t' := ⟨fun pins s σ H Q I hw => h.run pins s σ H Q I (q _ _ _ hw)⟩
theorem PWimp {t t' : TT} (h : PW X e t) (q : ∀ σ H Q, t' σ H Q → t σ H Q) : PW X e t' := ⟨fun wh pins s σ H Q I hw => h.run wh pins s σ H Q I (q _ _ _ hw)⟩
theorem PAimp {t t' : TA} (h : PA X es t) (q : ∀ σ H Q, t' σ H Q → t σ H Q) : PA X es t' := ⟨fun pos pins s σ H Q I hw => h.run pos pins s σ H Q I (q _ _ _ hw)⟩
theorem PSimp {st : Stmt} {t t' : TS} (h : PS X st t) (q : ∀ D σ H, t' D σ H → t D σ H) : PS X st t' := ⟨fun pins s σ H D I hw => h.run pins s σ H D I (q _ _ _ hw)⟩
theorem PSsimp {st : List Stmt} {t t' : TS} (h : PSs X st t) (q : ∀ D σ H, t' D σ H → t D σ H) : PSs X st t' := ⟨fun pins s σ H D I hw => h.run pins s σ H D I (q _ _ _ hw)⟩

def mVar (i : Nat) : ME := fun rh mu => match rh[i]? with
  | some (some d) => some (.ok d, mu)
  | _ => none
def mC (d : D) : ME := fun _ mu => some (.ok d, mu)
theorem can_var {i : Nat} {σ : L2.St} {H : Hp} {Q : VK} (h : canE g W (mVar i) σ H Q) : tVar i σ H Q := by
  obtain ⟨rh, mu, th, r, s, mu', e, q⟩ := h
  unfold mVar at e
  split at e
  · rename_i d hd
    have e' : (Rs.ok d, mu) = (s, mu') := Option.some.inj e
    cases e'
    obtain ⟨v, e1, e2⟩ := r.slt i d hd
    exact ⟨v, e1, q th v H (Fw.refl r.ok) e2⟩
  · cases e
theorem pm_var (i : Nat) {x : Str} {pos : Pos} (hN : X.N[i]? = some x := by rfl) (hv : Vis X.env.scope x := by first | exact Or.inl rfl | exact Or.inr (Or.inl rfl) | exact Or.inr (Or.inr rfl)) (hd : (x == ("__debug__" : Str)) = false := by decide)
    (hcd : (x == ("__classdict__" : Str)) = false := by decide) : PE X (.Name x pos) (canE g W (mVar i)) := PEimp (pe_var hN hv hd hcd) fun _ _ _ => can_var
theorem can_c {d : D} {v : V} (hr : ∀ th G, Rp g th G d v) {σ : L2.St} {H : Hp} {Q : VK} (h : canE g W (mC d) σ H Q) : tC v σ H Q := by
  obtain ⟨rh, mu, th, r, s, mu', e, q⟩ := h
  have e' : (Rs.ok d, mu) = (s, mu') := Option.some.inj e
  cases e'
  exact q th v H (Fw.refl r.ok) (hr _ _)
theorem pm_int {i j pos} : PE X (.Constant (.int i) j pos) (canE g W (mC (.int i))) := PEimp pe_int fun _ _ _ => can_c (d := .int i) fun _ _ => rfl
theorem pm_bl {b j pos} : PE X (.Constant (.bool b) j pos) (canE g W (mC (.bl b))) := PEimp pe_bl fun _ _ _ => can_c (d := .bl b) fun _ _ => rfl
theorem pm_non {j pos} : PE X (.Constant .none j pos) (canE g W (mC .non)) := PEimp pe_non fun _ _ _ => can_c (d := .non) fun _ _ => rfl
theorem pm_str {x j pos} : PE X (.Constant (.str x) j pos) (canE g W (mC (.str x))) := PEimp pe_str fun _ _ _ => can_c (d := .str x) fun _ _ => rfl
theorem pm_glob {x : Str} {d : D} {v : V} {u : Value} {pos : Pos} (hr : ∀ th G, Rp g th G d v) (hm : X.mg x = some u) (r : RelV v u) (hg : Gl X x := by rfl) (hd : (x == ("__debug__" : Str)) = false := by decide) : PE X (.Name x pos) (canE g W (mC d)) :=
  PEimp (pe_glob hg hm r hd) fun _ _ _ => can_c hr

/-! two-place operations -/
/-- f's answer is what the rule r tells of the values -/
def OpImp (g : Gam) (r : R2) (f : Mu → D → D → Option D) : Prop :=
  ∀ th mu H x y v u d, Ok g th mu H → Rp g th (Gz th mu H) x v → Rp g th (Gz th mu H) y u → f mu x y = some d → ∀ Q : VK, (∀ w H', Ex H H' → Rp g th (Gz th mu H') d w → Q w H') → r v u H Q
structure OpM (X : Cx) (g : Gam) (o : Value → Value → Sem Value) (f : Mu → D → D → Option D) : Prop where
  ex : ∃ r, OpR X o r ∧ OpImp g r f
theorem OpM.mk' {o : Value → Value → Sem Value} {r : R2} {f : Mu → D → D → Option D} (h : OpR X o r) (q : OpImp g r f) : OpM X g o f := ⟨⟨r, h, q⟩⟩
/-- two rules in one -/
theorem OpM.or {o : Value → Value → Sem Value} {f1 f2 f : Mu → D → D → Option D} (h1 : OpM X g o f1) (h2 : OpM X g o f2) (h : ∀ mu x y d, f mu x y = some d → f1 mu x y = some d ∨ f2 mu x y = some d) : OpM X g o f := by
  obtain ⟨r1, a1, b1⟩ := h1.ex
  obtain ⟨r2, a2, b2⟩ := h2.ex
  refine ⟨_, a1.or a2, fun th mu H x y v u d o hx hy e Q q => ?_⟩
  rcases h mu x y d e with e | e
  · exact .inl (b1 th mu H x y v u d o hx hy e Q q)
  · exact .inr (b2 th mu H x y v u d o hx hy e Q q)
def mOp (f : Mu → D → D → Option D) (ma mb : ME) : ME := bindM ma fun x => bindM mb fun y => lift fun mu => f mu x y
theorem can_op {r : R2} {f : Mu → D → D → Option D} (hi : OpImp g r f) {σ : L2.St} {H : Hp} {Q : VK} (h : canE g W (mOp f ma mb) σ H Q) : tOp r (canE g W ma) (canE g W mb) σ H Q := by
  refine can.imp (can_bind (R := RE g) h) fun x H1 ⟨d, rh, mu1, th1, hx, r1, h1⟩ => ⟨rh, mu1, th1, r1, ?_⟩
  refine (canAt_bind (R := RE g) r1 h1).imp fun y H2 ⟨d2, mu2, th2, f2, hy, r2, h2⟩ => ?_
  obtain ⟨d', e, q⟩ := canAt_lift r2 h2
  exact hi th2 mu2 H2 d d2 x y d' r2.ok (hx.mono f2.pf f2.ex) hy e Q fun w H' ex hw => q th2 w H' (Fw.heap r2.ok ex) hw
theorem pm_op {op : Operator} {f : Mu → D → D → Option D} (ho : OpM X g (binaryOp op) f) (ha : PE X a (canE g W ma)) (hb : PE X b (canE g W mb)) : PE X (.BinOp a op b pos) (canE g W (mOp f ma mb)) := by
  obtain ⟨r, h1, h2⟩ := ho.ex
  exact PEimp (pe_op h1 ha hb) fun _ _ _ => can_op h2
theorem pm_cmp {op : CmpOp} {f : Mu → D → D → Option D} (ho : OpM X g (compareOp op) f) (ha : PE X a (canE g W ma)) (hb : PE X b (canE g W mb)) (hm : behindInMarks op b = false) : PE X (.Compare a [op] [b] pos) (canE g W (mOp f ma mb)) := by
  obtain ⟨r, h1, h2⟩ := ho.ex
  exact PEimp (pe_cmpR h1 ha hb hm) fun _ _ _ => can_op h2

/-! tests -/
def retM {α : Type} (a : α) : M α := fun _ mu => some (.ok a, mu)
def failM {α : Type} : M α := fun _ _ => none
def boolOf : D → Option Bool
  | .bl b => some b
  | _ => none
def mTest (m : ME) : M Bool := bindM m fun d => lift fun _ => boolOf d
theorem canAt_ret {α β : Type} {R : Th → Hp → α → β → Prop} {x : α} {rh : Rho} {mu : Mu} {th : Th} {σ : L2.St} {H : Hp} {Q : β → Hp → Prop} (r : Rl g rh mu th σ H) (h : canAt g W R (retM x) rh mu th σ H Q) :
    ∀ th' b H', Fw g th mu H th' mu H' → R th' (Gz th' mu H') x b → Q b H' := by
  obtain ⟨s, mu', e, q⟩ := h
  have e' : (Rs.ok x, mu) = (s, mu') := Option.some.inj e
  cases e'
  exact q
theorem can_test {σ : L2.St} {H : Hp} {Q : Bool → Hp → Prop} (h : canT g W (mTest ma) σ H Q) : canE g W ma σ H fun x H1 => ∃ k, x = .bl k ∧ Q k H1 :=
  (can_bind (R := RE g) h).imp fun x H1 ⟨d, rh, mu1, th1, hx, r1, h1⟩ => by
    obtain ⟨b, e, q⟩ := canAt_lift r1 h1
    cases d with
    | bl k =>
      have e' : k = b := Option.some.inj e
      subst e'
      exact ⟨k, hx, q th1 k H1 (Fw.refl r1.ok) rfl⟩
    | _ => cases e
theorem pmt_val (h : PE X e (canE g W ma)) (he : ∀ whole, isTrue e X.env whole = (do let v ← whole; standAt e.pos; holding [v] (truthy v)) := by intro _; rfl) : PT X e (canT g W (mTest ma)) :=
  PTimp (pt_val h he) fun _ _ _ => can_test
theorem pmt_cmp {op : CmpOp} {f : Mu → D → D → Option D} (ho : OpM X g (compareOp op) f) (ha : PE X a (canE g W ma)) (hb : PE X b (canE g W mb)) (hm : behindInMarks op b = false) : PT X (.Compare a [op] [b] pos) (canT g W (mTest (mOp f ma mb))) := by
  obtain ⟨r, h1, h2⟩ := ho.ex
  exact PTimp (pt_cmpR h1 ha hb hm) fun _ _ _ h => can_op h2 (can_test h)
/-- a comparison by its own rule (dicts) -/
theorem pmt_pc {op : CmpOp} (h : PC X op a b (canE g W ma)) (h1 : behindInMarks op b = false) : PT X (.Compare a [op] [b] pos) (canT g W (mTest ma)) := PTimp (pt_cmp h h1) fun _ _ _ h => can_test h
def mAnd (t u : M Bool) : M Bool := bindM t fun c => if c = true then u else retM false
def mOr (t u : M Bool) : M Bool := bindM t fun c => if c = true then retM true else u
def mNot (t : M Bool) : M Bool := bindM t fun c => retM (!c)
theorem can_of_at {α β : Type} {R : Th → Hp → α → β → Prop} {m : M α} {rh : Rho} {mu : Mu} {th : Th} {σ : L2.St} {H : Hp} {Q : β → Hp → Prop} (r : Rl g rh mu th σ H) (h : canAt g W R m rh mu th σ H Q) : can g W R m σ H Q := ⟨rh, mu, th, r, h⟩
theorem pmt_and1 {ps : Pos} (h : PT X a (canT g W mt)) : PW X (.BoolOp .And [a] ps) (canT g W mt) := pw_and1 h
theorem pmt_or1 {ps : Pos} (h : PT X a (canT g W mt)) : PW X (.BoolOp .Or [a] ps) (canT g W mt) := pw_or1 h
theorem pmt_and {ps : Pos} {rest : List Expr} (h : PT X a (canT g W mt)) (hb : PW X (.BoolOp .And (b :: rest) ps) (canT g W mt')) : PW X (.BoolOp .And (a :: b :: rest) ps) (canT g W (mAnd mt mt')) :=
  PWimp (pw_and h hb) fun σ H Q h => (can_bind (R := RT) h).imp fun c H1 ⟨d, rh, mu1, th1, hx, r1, h1⟩ => by
    subst hx
    cases d with
    | true => exact can_of_at r1 h1
    | false => exact canAt_ret (R := RT) r1 h1 th1 false H1 (Fw.refl r1.ok) rfl
theorem pmt_or {ps : Pos} {rest : List Expr} (h : PT X a (canT g W mt)) (hb : PW X (.BoolOp .Or (b :: rest) ps) (canT g W mt')) : PW X (.BoolOp .Or (a :: b :: rest) ps) (canT g W (mOr mt mt')) :=
  PWimp (pw_or h hb) fun σ H Q h => (can_bind (R := RT) h).imp fun c H1 ⟨d, rh, mu1, th1, hx, r1, h1⟩ => by
    subst hx
    cases d with
    | false => exact can_of_at r1 h1
    | true => exact canAt_ret (R := RT) r1 h1 th1 true H1 (Fw.refl r1.ok) rfl
theorem pmt_bool {op : BoolOp} {es : List Expr} {ps : Pos} (h : PW X (.BoolOp op es ps) (canT g W mt)) : PT X (.BoolOp op es ps) (canT g W mt) := h.pt
theorem pmt_not (h : PT X a (canT g W mt)) : PT X (.UnaryOp .Not a pos) (canT g W (mNot mt)) :=
  PTimp (pt_not h) fun σ H Q h => (can_bind (R := RT) h).imp fun c H1 ⟨d, rh, mu1, th1, hx, r1, h1⟩ => by
    subst hx
    exact canAt_ret (R := RT) r1 h1 th1 (!d) H1 (Fw.refl r1.ok) rfl
/-! and, or, not as values -/
def mAndV (ma mb : ME) : ME := bindM (mTest ma) fun c => if c = true then mb else retM (.bl false)
def mOrV (ma mb : ME) : ME := bindM (mTest ma) fun c => if c = true then retM (.bl true) else mb
theorem pm_one {op : BoolOp} (h : PE X a (canE g W ma)) : PE X (.BoolOp op [a] pos) (canE g W ma) := pe_one h
theorem pm_and {rest : List Expr} (ha : PE X a (canE g W ma)) (hb : PE X (.BoolOp .And (b :: rest) pos) (canE g W mb)) : PE X (.BoolOp .And (a :: b :: rest) pos) (canE g W (mAndV ma mb)) :=
  PEimp (pe_and ha hb) fun σ H Q h => (can_test (can_bind (R := RT) h)).imp fun x H1 ⟨k, ex, d, rh, mu1, th1, hx, r1, h1⟩ => by
    subst hx
    refine ⟨d, ex, ?_⟩
    cases d with
    | true => exact can_of_at r1 h1
    | false => exact canAt_ret (R := RE g) r1 h1 th1 (.bl false) H1 (Fw.refl r1.ok) rfl
theorem pm_or {rest : List Expr} (ha : PE X a (canE g W ma)) (hb : PE X (.BoolOp .Or (b :: rest) pos) (canE g W mb)) : PE X (.BoolOp .Or (a :: b :: rest) pos) (canE g W (mOrV ma mb)) :=
  PEimp (pe_or ha hb) fun σ H Q h => (can_test (can_bind (R := RT) h)).imp fun x H1 ⟨k, ex, d, rh, mu1, th1, hx, r1, h1⟩ => by
    subst hx
    refine ⟨d, ex, ?_⟩
    cases d with
    | false => exact can_of_at r1 h1
    | true => exact canAt_ret (R := RE g) r1 h1 th1 (.bl true) H1 (Fw.refl r1.ok) rfl
def mNotV (ma : ME) : ME := bindM (mTest ma) fun c => retM (.bl (!c))
theorem pm_not (ha : PE X a (canE g W ma)) : PE X (.UnaryOp .Not a pos) (canE g W (mNotV ma)) :=
  PEimp (pe_not ha) fun σ H Q h => (can_test (can_bind (R := RT) h)).imp fun x H1 ⟨k, ex, d, rh, mu1, th1, hx, r1, h1⟩ => by
    subst hx
    exact ⟨d, ex, canAt_ret (R := RE g) r1 h1 th1 (.bl (!d)) H1 (Fw.refl r1.ok) rfl⟩
def mIf (t : M Bool) (ma mb : ME) : ME := bindM t fun c => if c = true then ma else mb
theorem pm_if (ht : PT X c (canT g W mt)) (ha : PE X a (canE g W ma)) (hb : PE X b (canE g W mb)) : PE X (.IfExp c a b pos) (canE g W (mIf mt ma mb)) :=
  PEimp (pe_ifExp ht ha hb) fun σ H Q h => (can_bind (R := RT) h).imp fun k H1 ⟨d, rh, mu1, th1, hx, r1, h1⟩ => by
    subst hx
    cases d with
    | true => exact can_of_at r1 h1
    | false => exact can_of_at r1 h1
/-! chains of comparisons -/
def mCh (f f' : Mu → D → D → Option D) (ma mb mc : ME) : ME := bindM ma fun x => bindM mb fun y => bindM (lift fun mu => (f mu x y).bind boolOf) fun k => if k = true then bindM mc fun z => lift fun mu => f' mu y z else retM (.bl false)
theorem can_chain {r r' : R2} {f f' : Mu → D → D → Option D} (hi : OpImp g r f) (hi' : OpImp g r' f') {σ : L2.St} {H : Hp} {Q : VK} (h : canE g W (mCh f f' ma mb mc) σ H Q) :
    canE g W ma σ H fun x H1 => canE g W mb σ H1 fun y H2 => r x y H2 fun z H3 => ∃ k, z = .bl k ∧ (if k = true then canE g W mc σ H3 fun w' H4 => r' y w' H4 Q else Q (.bl false) H3) := by
  refine can.imp (can_bind (R := RE g) h) fun x H1 ⟨d, rh, mu1, th1, hx, r1, h1⟩ => ⟨rh, mu1, th1, r1, ?_⟩
  refine (canAt_bind (R := RE g) r1 h1).imp fun y H2 ⟨d2, mu2, th2, f2, hy, r2, h2⟩ => ?_
  obtain ⟨s, mu3, e3, q3⟩ := canAt_bind (R := RT) r2 h2
  have e3 : Option.map (fun a => (Rs.ok a, mu2)) ((f mu2 d d2).bind boolOf) = some (s, mu3) := e3
  cases hf : f mu2 d d2 with
  | none => rw [hf] at e3; cases e3
  | some dk =>
    rw [hf] at e3
    cases dk with
    | bl k =>
      have e4 : (Rs.ok k, mu2) = (s, mu3) := Option.some.inj e3
      cases e4
      refine hi th2 mu2 H2 d d2 x y (.bl k) r2.ok (hx.mono f2.pf f2.ex) hy hf _ fun w H3 ex hw => ⟨k, hw, ?_⟩
      obtain ⟨k', mu4, th4, f4, hk, r4, h4⟩ := q3 th2 k H3 (Fw.heap r2.ok ex) rfl
      subst hk
      cases k' with
      | false => exact canAt_ret (R := RE g) r4 h4 th4 (.bl false) H3 (Fw.refl r4.ok) rfl
      | true =>
        refine ⟨rh, mu4, th4, r4, (canAt_bind (R := RE g) r4 h4).imp fun z H5 ⟨d5, mu5, th5, f5, hz, r5, h5⟩ => ?_⟩
        obtain ⟨d6, e6, q6⟩ := canAt_lift r5 h5
        exact hi' th5 mu5 H5 d2 d5 y z d6 r5.ok (hy.mono (f4.trans f5).pf (f4.trans f5).ex) hz e6 Q fun w H' ex' hw' => q6 th5 w H' (Fw.heap r5.ok ex') hw'
    | _ => cases e3
theorem pm_chain {op op' : CmpOp} {f f' : Mu → D → D → Option D} (ho : OpM X g (compareOp op) f) (ho' : OpM X g (compareOp op') f') (ha : PE X a (canE g W ma)) (hb : PE X b (canE g W mb)) (hc : PE X c (canE g W mc))
    (hm : lastMarks [op, op'] [b, c] = false := by with_unfolding_all rfl) : PE X (.Compare a [op, op'] [b, c] pos) (canE g W (mCh f f' ma mb mc)) := by
  obtain ⟨r, h1, h2⟩ := ho.ex
  obtain ⟨r', h1', h2'⟩ := ho'.ex
  exact PEimp (pe_chain h1 h1' ha hb hc hm) fun _ _ _ => can_chain h2 h2'
theorem pmt_chain {op op' : CmpOp} {f f' : Mu → D → D → Option D} (ho : OpM X g (compareOp op) f) (ho' : OpM X g (compareOp op') f') (ha : PE X a (canE g W ma)) (hb : PE X b (canE g W mb)) (hc : PE X c (canE g W mc))
    (hm : lastMarks [op, op'] [b, c] = false := by with_unfolding_all rfl) : PT X (.Compare a [op, op'] [b, c] pos) (canT g W (mTest (mCh f f' ma mb mc))) := by
  obtain ⟨r, h1, h2⟩ := ho.ex
  obtain ⟨r', h1', h2'⟩ := ho'.ex
  exact PTimp (pt_chain h1 h1' ha hb hc hm) fun _ _ _ h => can_chain h2 h2' (can_test h)
/-! argument lists, displays -/
def mNil : M (List D) := retM []
def mCons (ma : ME) (mr : M (List D)) : M (List D) := bindM ma fun d => bindM mr fun ds => retM (d :: ds)
variable {mr : M (List D)}
theorem pma_nil : PA X [] (canA g W mNil) := PAimp pa_nil fun σ H Q ⟨rh, mu, th, r, h⟩ => canAt_ret (R := RA g) r h th [] H (Fw.refl r.ok) rfl
theorem pma_cons (ha : PE X e (canE g W ma)) (hr : PA X es (canA g W mr)) (hs : starEach (e :: es) X.env = (false, eval e X.env) :: starEach es X.env := by rfl) : PA X (e :: es) (canA g W (mCons ma mr)) :=
  PAimp (pa_cons ha hr hs) fun σ H Q h => (can_bind (R := RE g) h).imp fun x H1 ⟨d, rh, mu1, th1, hx, r1, h1⟩ => ⟨rh, mu1, th1, r1, (canAt_bind (R := RA g) r1 h1).imp fun xs H2 ⟨ds, mu2, th2, f2, hs, r2, h2⟩ =>
    canAt_ret (R := RA g) r2 h2 th2 (x :: xs) H2 (Fw.refl r2.ok) ⟨x, xs, rfl, hx.mono f2.pf f2.ex, hs⟩⟩
theorem rp_newTup {th : Th} {mu : Mu} {H : Hp} {p : Addr} {ds : List D} {xs : List V} (o : Ok g th mu H) (hp : H p = none) (h : RpL g th (Gz th mu H) ds xs) : Rp g th (Gz th mu (upd H p (.tup xs))) (.tup ds) (.ref p) := by
  have ex : Ex H (upd H p (.tup xs)) := Evl.Ex.new hp
  refine ⟨p, xs, rfl, .inl ?_, RpL.mono Pfx.refl (Gz_ex ex) _ _ h⟩
  unfold Gz
  rw [if_neg (o.new hp)]
  exact upd_same
theorem rp_newLst {th : Th} {mu : Mu} {H : Hp} {p : Addr} {ds : List D} {xs : List V} (o : Ok g th mu H) (hp : H p = none) (h : RpL g th (Gz th mu H) ds xs) : Rp g th (Gz th mu (upd H p (.lst xs))) (.lst ds) (.ref p) := by
  have ex : Ex H (upd H p (.lst xs)) := Evl.Ex.new hp
  refine ⟨p, xs, rfl, ?_, RpL.mono Pfx.refl (Gz_ex ex) _ _ h⟩
  unfold Gz
  rw [if_neg (o.new hp)]
  exact upd_same
def few (ds : List D) : Option (List D) := if ds.length ≤ 100000 then some ds else none
def mTup (mr : M (List D)) : ME := bindM mr fun ds => lift fun _ => (few ds).map .tup
theorem few_eq {ds es : List D} (h : few ds = some es) : es = ds ∧ ds.length ≤ 100000 := by
  unfold few at h
  split at h
  · exact ⟨(Option.some.inj h).symm, by assumption⟩
  · cases h
theorem pm_tup {k : Nat} (h : PA X es (canA g W mr)) : PE X (.Tuple es k pos) (canE g W (mTup mr)) :=
  PEimp (pe_tup h) fun σ H Q h => (can_bind (R := RA g) h).imp fun xs H1 ⟨ds, rh, mu1, th1, hx, r1, h1⟩ => by
    obtain ⟨d, e, q⟩ := canAt_lift r1 h1
    cases hf : few ds with
    | none => rw [hf] at e; cases e
    | some es =>
      rw [hf] at e
      obtain ⟨rfl, hl⟩ := few_eq hf
      have e' : D.tup es = d := Option.some.inj e
      subst e'
      refine ⟨Evl.sz_of (by rw [hx.length]; exact hl), fun p hp => ?_⟩
      exact q th1 _ _ (Fw.heap r1.ok (Evl.Ex.new hp)) (rp_newTup r1.ok hp hx)
def mLst (mr : M (List D)) : ME := bindM mr fun ds => lift fun _ => (few ds).map .lst
theorem pm_lst (h : PA X es (canA g W mr)) : PE X (.List es pos) (canE g W (mLst mr)) :=
  PEimp (pe_lst h) fun σ H Q h => (can_bind (R := RA g) h).imp fun xs H1 ⟨ds, rh, mu1, th1, hx, r1, h1⟩ => by
    obtain ⟨d, e, q⟩ := canAt_lift r1 h1
    cases hf : few ds with
    | none => rw [hf] at e; cases e
    | some es =>
      rw [hf] at e
      obtain ⟨rfl, hl⟩ := few_eq hf
      have e' : D.lst es = d := Option.some.inj e
      subst e'
      refine ⟨Evl.sz_of (by rw [hx.length]; exact hl), fun p hp => ?_⟩
      exact q th1 _ _ (Fw.heap r1.ok (Evl.Ex.new hp)) (rp_newLst r1.ok hp hx)
end
end Eb

/-! Eb: statements, loops, calls, comprehensions. -/
namespace Eb
open PySem L2
open Evl (Ex ex_l ex_t)
def canSAt (g : Gam) (W : WX) (m : MS) (rh : Rho) (mu : Mu) (th : Th) (Dn : Ends) (H : Hp) : Prop :=
  ∃ o mu', m rh mu = some (o, mu') ∧ match o with
    | .nx r' => ∀ th' σ' H', Fw g th mu H th' mu' H' → Rl g r' mu' th' σ' H' → Dn.nx σ' H'
    | .bk r' => ∀ th' σ' H', Fw g th mu H th' mu' H' → Rl g r' mu' th' σ' H' → Dn.bk σ' H'
    | .ct r' => ∀ th' σ' H', Fw g th mu H th' mu' H' → Rl g r' mu' th' σ' H' → Dn.ct σ' H'
    | .rt d => ∀ th' v H', Fw g th mu H th' mu' H' → Rp g th' (Gz th' mu' H') d v → Dn.rt v H'
    | .er x r' => ∀ th' cls dd σ' H', Fw g th mu H th' mu' H' → Rl g r' mu' th' σ' H' → RpX g th' (Gz th' mu' H') x cls dd → W cls dd σ' H'
def canS (g : Gam) (W : WX) (m : MS) : TS := fun Dn σ H => ∃ rh mu th, Rl g rh mu th σ H ∧ canSAt g W m rh mu th Dn H
/-- an outcome of a later state is one of an earlier -/
theorem canSAt_fw {g : Gam} {W : WX} {m m' : MS} {rh rh' : Rho} {mu mu1 : Mu} {th th1 : Th} {Dn : Ends} {H H1 : Hp} (f : Fw g th mu H th1 mu1 H1) (e : m rh mu = m' rh' mu1) (h : canSAt g W m rh mu th Dn H) : canSAt g W m' rh' mu1 th1 Dn H1 := by
  obtain ⟨o, mu', q, k⟩ := h
  refine ⟨o, mu', e ▸ q, ?_⟩
  cases o with
  | nx r => exact fun th' σ' H' f' => k th' σ' H' (f.trans f')
  | bk r => exact fun th' σ' H' f' => k th' σ' H' (f.trans f')
  | ct r => exact fun th' σ' H' f' => k th' σ' H' (f.trans f')
  | rt d => exact fun th' v H' f' => k th' v H' (f.trans f')
  | er x r => exact fun th' cls dd σ' H' f' => k th' cls dd σ' H' (f.trans f')
def bindS {α : Type} (m : M α) (k : α → MS) : MS := fun rh mu => match m rh mu with
  | some (.ok a, mu1) => k a rh mu1
  | some (.er x, mu1) => some (.er x rh, mu1)
  | none => none
section
variable {α β : Type} {g : Gam} {W : WX} {R : Th → Hp → α → β → Prop} {σ : L2.St} {H : Hp} {Dn : Ends} {rh : Rho} {mu : Mu} {th : Th}
theorem canSAt_bind {m : M α} {k : α → MS} (r : Rl g rh mu th σ H) (h : canSAt g W (bindS m k) rh mu th Dn H) :
    canAt g W R m rh mu th σ H fun b H1 => ∃ a mu1 th1, Fw g th mu H th1 mu1 H1 ∧ R th1 (Gz th1 mu1 H1) a b ∧ Rl g rh mu1 th1 σ H1 ∧ canSAt g W (k a) rh mu1 th1 Dn H1 := by
  obtain ⟨o, mu', e, q⟩ := h
  unfold bindS at e
  cases hm : m rh mu with
  | none => rw [hm] at e; cases e
  | some p =>
    obtain ⟨t, mu1⟩ := p
    rw [hm] at e
    cases t with
    | er x =>
      have e' : (Out.er x rh, mu1) = (o, mu') := Option.some.inj e
      cases e'
      exact ⟨.er x, _, hm, fun th' cls dd H' f hx => q th' cls dd σ H' f (r.fw f) hx⟩
    | ok a =>
      refine ⟨.ok a, mu1, hm, fun th1 b H1 f hr => ⟨a, mu1, th1, f, hr, r.fw f, ?_⟩⟩
      refine ⟨o, mu', e, ?_⟩
      cases o with
      | nx r => exact fun th' σ' H' f' => q th' σ' H' (f.trans f')
      | bk r => exact fun th' σ' H' f' => q th' σ' H' (f.trans f')
      | ct r => exact fun th' σ' H' f' => q th' σ' H' (f.trans f')
      | rt d => exact fun th' v H' f' => q th' v H' (f.trans f')
      | er x r => exact fun th' cls dd σ' H' f' => q th' cls dd σ' H' (f.trans f')
theorem canS_bind {m : M α} {k : α → MS} (h : canS g W (bindS m k) Dn σ H) :
    can g W R m σ H fun b H1 => ∃ a rh mu1 th1, R th1 (Gz th1 mu1 H1) a b ∧ Rl g rh mu1 th1 σ H1 ∧ canSAt g W (k a) rh mu1 th1 Dn H1 := by
  obtain ⟨rh, mu, th, r, h⟩ := h
  exact ⟨rh, mu, th, r, (canSAt_bind r h).imp fun b H' ⟨a, mu1, th1, _, q⟩ => ⟨a, rh, mu1, th1, q⟩⟩
end
theorem Rl.set {g : Gam} {rh : Rho} {mu : Mu} {th : Th} {σ : L2.St} {H : Hp} (r : Rl g rh mu th σ H) (i : Nat) {d : D} {v : V} (h : Rp g th (Gz th mu H) d v) : Rl g (rh.set i (some d)) mu th (σ.set i (some v)) H :=
  ⟨r.ok, by simp [r.len], fun j d' e => by
    by_cases hj : j = i
    · subst hj
      have hl : j < rh.length := by
        have := (List.getElem?_eq_some_iff.mp e).1
        simpa using this
      rw [List.getElem?_set_self hl] at e
      have : d = d' := Option.some.inj (Option.some.inj e)
      subst this
      exact ⟨v, by rw [List.getElem?_set_self (by rw [← r.len]; exact hl)], h⟩
    · rw [List.getElem?_set_ne (Ne.symm hj)] at e ⊢
      exact r.slt j d' e⟩

/-! ### targets -/
abbrev Tg := D → Rho → Option Rho
abbrev Tgs := List D → Rho → Option Rho
def tNm (i : Nat) : Tg := fun d rh => some (rh.set i (some d))
def tsNil : Tgs := fun ds rh => match ds with | [] => some rh | _ => none
def tsCons (t : Tg) (u : Tgs) : Tgs := fun ds rh => match ds with | d :: ds => (t d rh).bind (u ds) | [] => none
def tTp (n : Nat) (u : Tgs) : Tg := fun d rh => match d with | .tup ds => if ds.length = n then u ds rh else none | _ => none
def canG (g : Gam) (t : Tg) : TG := fun v σ H Q => ∃ rh mu th d rh', Rl g rh mu th σ H ∧ Rp g th (Gz th mu H) d v ∧ t d rh = some rh' ∧ ∀ σ', Rl g rh' mu th σ' H → Q σ' H
def canGs (g : Gam) (t : Tgs) : TGs := fun vs σ H Q => ∃ rh mu th ds rh', Rl g rh mu th σ H ∧ RpL g th (Gz th mu H) ds vs ∧ t ds rh = some rh' ∧ ∀ σ', Rl g rh' mu th σ' H → Q σ' H
section
variable {X : Cx} {g : Gam} {W : WX} {pos : Pos}
theorem pmg_name {i : Nat} {x : Str} (hN : X.N.Nodup) (hi : X.N[i]? = some x) (hx : Loc X.env.scope x) (hf : X.fn x = true ∨ X.env.scope.names.lookup x = some .local := by first | exact .inl rfl | exact .inr rfl | assumption) : PG X (.Name x pos) (canG g (tNm i)) := by
  refine ⟨fun pins s σ H v u Q I r h => (pg_name hN hi hx hf).run pins s σ H v u Q I r ?_⟩
  obtain ⟨rh, mu, th, d, rh', rl, hd, e, k⟩ := h
  have e' : rh.set i (some d) = rh' := Option.some.inj e
  subst e'
  exact k _ (rl.set i hd)
theorem pmgs_nil : PGs X [] (canGs g tsNil) := by
  refine ⟨fun pins s σ H vs us Q I r h => pgs_nil.run pins s σ H vs us Q I r ?_⟩
  obtain ⟨rh, mu, th, ds, rh', rl, hd, e, k⟩ := h
  cases ds with
  | nil =>
    have e' : rh = rh' := Option.some.inj e
    subst e'
    exact ⟨hd, k _ rl⟩
  | cons d ds => cases e
theorem pmgs_cons {e : Expr} {es : List Expr} {t : Tg} {u : Tgs} (h1 : PG X e (canG g t)) (h2 : PGs X es (canGs g u)) (hs : (assignEach (e :: es) X.env).map (·.2) = assign e X.env :: (assignEach es X.env).map (·.2) := by rfl) : PGs X (e :: es) (canGs g (tsCons t u)) := by
  refine ⟨fun pins s σ H vs us Q I r h => (pgs_cons h1 h2 hs).run pins s σ H vs us Q I r ?_⟩
  obtain ⟨rh, mu, th, ds, rh', rl, hd, e, k⟩ := h
  cases ds with
  | nil => cases e
  | cons d ds =>
    obtain ⟨v, vr, e1, hd1, hd2⟩ := hd
    have e : (t d rh).bind (u ds) = some rh' := e
    cases ht : t d rh with
    | none => rw [ht] at e; cases e
    | some rh1 =>
      rw [ht] at e
      exact ⟨v, vr, e1, rh, mu, th, d, rh1, rl, hd1, ht, fun σ1 rl1 => ⟨rh1, mu, th, ds, rh', rl1, hd2, e, k⟩⟩
theorem sqT_of {th : Th} {mu : Mu} {H : Hp} {ds : List D} {v : V} (h : Rp g th (Gz th mu H) (.tup ds) v) : ∃ a xs, v = .ref a ∧ SqT g.K H a xs ∧ RpL g th (Gz th mu H) ds xs ∧ (ds.length ≠ 1 ∨ xs ≠ [.str "wait"] → H a = some (.tup xs)) := by
  obtain ⟨a, xs, e1, e2, e3⟩ := h
  refine ⟨a, xs, e1, ?_, e3, fun q => ?_⟩
  · rcases e2 with e2 | e2
    · exact .inl (.inl (Gz_sub _ _ e2))
    · exact ex_t Gz_sub e2.2.2
  · rcases e2 with e2 | e2
    · exact Gz_sub _ _ e2
    · rcases q with q | q
      · exact absurd e2.1 q
      · exact absurd e2.2.1 q
theorem pmg_tup {es : List Expr} {k : Nat} {u : Tgs} {n : Nat} (hK : X.K = g.K) (hc : X.calm = true) (h : PGs X es (canGs g u))
    (hn : (assignEach es X.env).length = n := by rfl) (hst : (assignEach es X.env).findIdx? (·.1) = none := by rfl) : PG X (.Tuple es k pos) (canG g (tTp n u)) := by
  refine ⟨fun pins s σ H v w Q I r hw => (pg_tup hc h hn hst).run pins s σ H v w Q I r ?_⟩
  obtain ⟨rh, mu, th, d, rh', rl, hd, e, k⟩ := hw
  unfold tTp at e
  split at e
  · rename_i ds
    split at e
    · rename_i hl
      obtain ⟨a, xs, e1, e2, e3, _⟩ := sqT_of hd
      exact ⟨a, xs, e1, by rw [hK]; exact e2, by rw [e3.length]; exact hl, rh, mu, th, ds, rh', rl, e3, e, k⟩
    · cases e
  · cases e
end

/-! ### statements -/
def sSkip : MS := fun rh mu => some (.nx rh, mu)
def sSeq (a b : MS) : MS := fun rh mu => match a rh mu with
  | some (.nx r, mu1) => b r mu1
  | o => o
def sAsg (ma : ME) (t : Tg) : MS := bindS ma fun d rh mu => (t d rh).map fun r => (.nx r, mu)
def sDrop (ma : ME) : MS := bindS ma fun _ => sSkip
def sRet (ma : ME) : MS := bindS ma fun d _ mu => some (.rt d, mu)
def sRetN : MS := fun _ mu => some (.rt .non, mu)
def sIf (t : M Bool) (a b : MS) : MS := bindS t fun c => if c = true then a else b
section
variable {X : Cx} {g : Gam} {W : WX} {pos : Pos} {st : Stmt} {rest : List Stmt} {e : Expr} {ma : ME} {mt : M Bool} {sa sb : MS} {σ : L2.St} {H : Hp} {Dn : Ends}
theorem canSAt_skip {rh : Rho} {mu : Mu} {th : Th} (r : Rl g rh mu th σ H) (h : canSAt g W sSkip rh mu th Dn H) : Dn.nx σ H := by
  obtain ⟨o, mu', e, q⟩ := h
  have e' : (Out.nx rh, mu) = (o, mu') := Option.some.inj e
  cases e'
  exact q th σ H (Fw.refl r.ok) r
theorem can_seq (h : canS g W (sSeq sa sb) Dn σ H) : canS g W sa { Dn with nx := canS g W sb Dn } σ H := by
  obtain ⟨rh, mu, th, r, o, mu', e, q⟩ := h
  refine ⟨rh, mu, th, r, ?_⟩
  unfold sSeq at e
  split at e
  · rename_i r1 mu1 he
    exact ⟨.nx r1, mu1, he, fun th1 σ1 H1 f1 rl1 => ⟨r1, mu1, th1, rl1, o, mu', e, by
      cases o with
      | nx r => exact fun th' σ' H' f' => q th' σ' H' (f1.trans f')
      | bk r => exact fun th' σ' H' f' => q th' σ' H' (f1.trans f')
      | ct r => exact fun th' σ' H' f' => q th' σ' H' (f1.trans f')
      | rt d => exact fun th' v H' f' => q th' v H' (f1.trans f')
      | er x r => exact fun th' cls dd σ' H' f' => q th' cls dd σ' H' (f1.trans f')⟩⟩
  · rename_i hne
    refine ⟨o, mu', e, ?_⟩
    cases o with
    | nx r => exact absurd e (hne r mu')
    | bk r => exact q
    | ct r => exact q
    | rt d => exact q
    | er x r => exact q
theorem pms_nil : PSs X [] (canS g W sSkip) := PSsimp pss_nil fun Dn σ H ⟨rh, mu, th, r, h⟩ => canSAt_skip r h
theorem pms_cons (h1 : PS X st (canS g W sa)) (h2 : PSs X rest (canS g W sb)) : PSs X (st :: rest) (canS g W (sSeq sa sb)) := PSsimp (pss_cons h1 h2) fun Dn σ H h => can_seq h
theorem pms_one (h1 : PS X st (canS g W sa)) : PSs X [st] (canS g W sa) := pss_one h1
theorem pm_pass : PS X (.Pass pos) (canS g W sSkip) := PSimp ps_pass fun Dn σ H ⟨rh, mu, th, r, h⟩ => canSAt_skip r h
theorem pm_set {i : Nat} {x : Str} {pos' : Pos} (hN : X.N.Nodup) (hi : X.N[i]? = some x) (hx : Loc X.env.scope x) (he : PE X e (canE g W ma)) (hs : swapsWith e (some (.Name x pos')) pos.line X.env = pure false := by rfl)
    (hf : X.fn x = true ∨ X.env.scope.names.lookup x = some .local := by first | exact .inl rfl | exact .inr rfl | assumption) : PS X (.Assign [.Name x pos'] e pos) (canS g W (sAsg ma (tNm i))) :=
  PSimp (ps_set hN hi hx he hs hf) fun Dn σ H h => (canS_bind (R := RE g) h).imp fun v H1 ⟨d, rh, mu1, th1, hd, r1, o, mu', e1, q⟩ => by
    have e' : (Out.nx (rh.set i (some d)), mu1) = (o, mu') := Option.some.inj e1
    cases e'
    exact q th1 _ H1 (Fw.refl r1.ok) (r1.set i hd)
theorem pm_asg {tg : Expr} {t : Tg} (he : PE X e (canE g W ma)) (hg : PG X tg (canG g t)) (hs : swapsWithSole [tg] e pos.line X.env = pure false := by rfl) (hw : swappedStores [tg] e X.env = pure none := by rfl)
    (h1 : (assignEach [tg] X.env).map (·.2) = [assign tg X.env] := by rfl) : PS X (.Assign [tg] e pos) (canS g W (sAsg ma t)) :=
  PSimp (ps_asg he hg hs hw h1) fun Dn σ H h => (canS_bind (R := RE g) h).imp fun v H1 ⟨d, rh, mu1, th1, hd, r1, o, mu', e1, q⟩ => by
    have e1 : (t d rh).map (fun r => (Out.nx r, mu1)) = some (o, mu') := e1
    cases ht : t d rh with
    | none => rw [ht] at e1; cases e1
    | some r' =>
      rw [ht] at e1
      have e' : (Out.nx r', mu1) = (o, mu') := Option.some.inj e1
      cases e'
      exact ⟨rh, _, th1, d, r', r1, hd, ht, fun σ' rl => q th1 σ' H1 (Fw.refl r1.ok) rl⟩
theorem pm_expr (he : PE X e (canE g W ma)) (hs : swapsWith e none pos.line X.env = pure false := by rfl) : PS X (.Expr e pos) (canS g W (sDrop ma)) :=
  PSimp (ps_expr he hs) fun Dn σ H h => (canS_bind (R := RE g) h).imp fun v H1 ⟨d, rh, mu1, th1, hd, r1, h1⟩ => canSAt_skip r1 h1
theorem pm_ret (he : PE X e (canE g W ma)) : PS X (.Return (some e) pos) (canS g W (sRet ma)) :=
  PSimp (ps_ret he) fun Dn σ H h => (canS_bind (R := RE g) h).imp fun v H1 ⟨d, rh, mu1, th1, hd, r1, o, mu', e1, q⟩ => by
    have e' : (Out.rt d, mu1) = (o, mu') := Option.some.inj e1
    cases e'
    exact q th1 v H1 (Fw.refl r1.ok) hd
theorem pm_retN : PS X (.Return none pos) (canS g W sRetN) := PSimp ps_retN fun Dn σ H ⟨rh, mu, th, r, o, mu', e1, q⟩ => by
  have e' : (Out.rt .non, mu) = (o, mu') := Option.some.inj e1
  cases e'
  exact q th .non H (Fw.refl r.ok) rfl
theorem pms_if {c : Expr} {a b : List Stmt} (hc : PT X c (canT g W mt)) (ha : PSs X a (canS g W sa)) (hb : PSs X b (canS g W sb)) : PS X (.If c a b pos) (canS g W (sIf mt sa sb)) :=
  PSimp (ps_if hc ha hb) fun Dn σ H h => (canS_bind (R := RT) h).imp fun k H1 ⟨d, rh, mu1, th1, hd, r1, h1⟩ => by
    subst hd
    cases d with
    | true => exact ⟨rh, mu1, th1, r1, h1⟩
    | false => exact ⟨rh, mu1, th1, r1, h1⟩
end

/-! ### loops -/
theorem Rp.monoI {g : Gam} {th th' : Th} {G G' : Hp} {d : D} {v : V} (p : ∃ r, th'.ids = th.ids ++ r) (e : Ex G G') (h : Rp g th G d v) : Rp g th' G' d v :=
  Rp.mono (th := ⟨th.ids, th'.hid⟩) (th' := th') ⟨p, rfl⟩ e d v (Rp.ids (th := th) (th' := ⟨th.ids, th'.hid⟩) rfl d v h)
def WalksD (g : Gam) (th : Th) (G : Hp) (J : It) (ds : List D) : Prop := ∀ th' mu' H', (∃ r, th'.ids = th.ids ++ r) → Ok g th' mu' H' → Ex G (Gz th' mu' H') → ∀ i : Nat,
  (∀ d, ds[i]? = some d → J.go i H' ∧ ∀ x H'', J.yld i H' x H'' → Ex H' H'' ∧ Rp g th' (Gz th' mu' H'') d x) ∧ (i = ds.length → J.stop i H')
abbrev RI (g : Gam) : Th → Hp → List D → It → Prop := fun th G ds J => WalksD g th G J ds
abbrev canI (g : Gam) (W : WX) (m : M (List D)) : TI := can g W (RI g) m
def loopS (t : Tg) (b : MS) : List D → MS
  | [] => sSkip
  | d :: ds => fun rh mu => match t d rh with
    | none => none
    | some rh1 => match b rh1 mu with
      | some (.nx r, mu1) => loopS t b ds r mu1
      | some (.ct r, mu1) => loopS t b ds r mu1
      | some (.bk r, mu1) => some (.nx r, mu1)
      | o => o
def sFor (it : M (List D)) (t : Tg) (b : MS) : MS := bindS it fun ds => loopS t b ds
section
variable {X : Cx} {g : Gam} {W : WX} {pos : Pos} {tg iter : Expr} {body : List Stmt} {it : M (List D)} {t : Tg} {b : MS}
theorem PIimp {wi wi' : TI} (h : PI X tg iter wi) (q : ∀ σ H R, wi' σ H R → wi σ H R) : PI X tg iter wi' := ⟨fun pins s σ H R I hw => h.run pins s σ H R I (q _ _ _ hw)⟩
theorem can_loop {J : It} {ds : List D} {rh0 : Rho} {mu0 : Mu} {th0 : Th} {σ0 : L2.St} {H0 : Hp} {Dn : Ends} (hJ : WalksD g th0 (Gz th0 mu0 H0) J ds) (r0 : Rl g rh0 mu0 th0 σ0 H0) (h : canSAt g W (loopS t b ds) rh0 mu0 th0 Dn H0) :
    ∃ Wv : Nat → Nat → L2.St → Hp → Prop, (∃ m, Wv 0 m σ0 H0) ∧ ∀ i m σ H, Wv i m σ H →
      (J.stop i H ∧ Dn.nx σ H) ∨ (J.go i H ∧ ∃ N : L2.St → Hp → Prop, (∀ σ' H', N σ' H' → ∃ m', m' < m ∧ Wv (i + 1) m' σ' H') ∧ ∀ x H', J.yld i H x H' → canG g t x σ H' fun σ2 H2 => canS g W b { Dn with nx := N, ct := N, bk := Dn.nx } σ2 H2) := by
  refine ⟨fun i m σ H => m = ds.length - i ∧ i ≤ ds.length ∧ ∃ rh mu th, Fw g th0 mu0 H0 th mu H ∧ Rl g rh mu th σ H ∧ canSAt g W (loopS t b (ds.drop i)) rh mu th Dn H, ⟨ds.length, by simp, Nat.zero_le _, rh0, mu0, th0, Fw.refl r0.ok, r0, by simpa using h⟩, ?_⟩
  rintro i m σ H ⟨rfl, hi, rh, mu, th, f, r, h⟩
  have wk := hJ th mu H f.pf.ids r.ok f.ex i
  by_cases hlt : i < ds.length
  · have ed : ds.drop i = ds[i] :: ds.drop (i + 1) := List.drop_eq_getElem_cons hlt
    obtain ⟨go, yl⟩ := wk.1 ds[i] (List.getElem?_eq_getElem hlt)
    rw [ed] at h
    obtain ⟨o, mu', e, q⟩ := h
    refine .inr ⟨go, fun σ' H' => ∃ rh' mu1 th1, Fw g th0 mu0 H0 th1 mu1 H' ∧ Rl g rh' mu1 th1 σ' H' ∧ canSAt g W (loopS t b (ds.drop (i + 1))) rh' mu1 th1 Dn H', ?_, ?_⟩
    · rintro σ' H' n
      exact ⟨ds.length - (i + 1), by omega, rfl, hlt, n⟩
    · intro x H' y
      obtain ⟨ex, hx⟩ := yl x H' y
      have fh : Fw g th mu H th mu H' := Fw.heap r.ok ex
      have e : (match t ds[i] rh with
        | none => none
        | some rh1 => match b rh1 mu with
          | some (.nx r, mu1) => loopS t b (ds.drop (i + 1)) r mu1
          | some (.ct r, mu1) => loopS t b (ds.drop (i + 1)) r mu1
          | some (.bk r, mu1) => some (.nx r, mu1)
          | o => o) = some (o, mu') := e
      cases ht : t ds[i] rh with
      | none => rw [ht] at e; cases e
      | some rh1 =>
        rw [ht] at e
        refine ⟨rh, mu, th, ds[i], rh1, r.fw fh, hx, ht, fun σ1 r1 => ⟨rh1, mu, th, r1, ?_⟩⟩
        dsimp only at e
        cases hb : b rh1 mu with
        | none => rw [hb] at e; cases e
        | some p =>
          obtain ⟨ob, mub⟩ := p
          rw [hb] at e
          refine ⟨ob, mub, hb, ?_⟩
          have next : ∀ r', loopS t b (ds.drop (i + 1)) r' mub = some (o, mu') → ∀ (th' : Th) (σ' : L2.St) (Hn : Hp), Fw g th mu H' th' mub Hn → Rl g r' mub th' σ' Hn →
              ∃ rh' mu1 th1, Fw g th0 mu0 H0 th1 mu1 Hn ∧ Rl g rh' mu1 th1 σ' Hn ∧ canSAt g W (loopS t b (ds.drop (i + 1))) rh' mu1 th1 Dn Hn := fun r' e2 th' σ' Hn f' rl' => ⟨r', mub, th', f.trans (fh.trans f'), rl', o, mu', e2, by
            have ff := fh.trans f'
            cases o with
            | nx r => exact fun th2 σ2 H2 f2 => q th2 σ2 H2 (ff.trans f2)
            | bk r => exact fun th2 σ2 H2 f2 => q th2 σ2 H2 (ff.trans f2)
            | ct r => exact fun th2 σ2 H2 f2 => q th2 σ2 H2 (ff.trans f2)
            | rt d => exact fun th2 v H2 f2 => q th2 v H2 (ff.trans f2)
            | er x r => exact fun th2 cls dd σ2 H2 f2 => q th2 cls dd σ2 H2 (ff.trans f2)⟩
          cases ob with
          | nx r' => exact fun th' σ' Hn f' rl' => next r' e th' σ' Hn f' rl'
          | ct r' => exact fun th' σ' Hn f' rl' => next r' e th' σ' Hn f' rl'
          | bk r' =>
            have e' : (Out.nx r', mub) = (o, mu') := Option.some.inj e
            cases e'
            exact fun th' σ' Hn f' rl' => q th' σ' Hn (fh.trans f') rl'
          | rt d =>
            have e' : (Out.rt d, mub) = (o, mu') := Option.some.inj e
            cases e'
            exact fun th' v Hn f' => q th' v Hn (fh.trans f')
          | er x r' =>
            have e' : (Out.er x r', mub) = (o, mu') := Option.some.inj e
            cases e'
            exact fun th' cls dd σ' Hn f' => q th' cls dd σ' Hn (fh.trans f')
  · have ei : i = ds.length := by omega
    refine .inl ⟨wk.2 ei, ?_⟩
    rw [ei, List.drop_length] at h
    exact canSAt_skip r h
theorem pms_for (hp : PassesOwn (model X.prog X.w) X.A X.env X.xe) (hc : X.calm = true) (hi : PI X tg iter (canI g W it)) (hg : PG X tg (canG g t)) (hb : PSs X body (canS g W b))
    (hs : ∀ x, foldedSetIterable iter X.env x = pure x := by intro _; rfl) : PS X (.For tg iter body [] pos) (canS g W (sFor it t b)) :=
  PSimp (ps_for hp hc hi hg hb hs) fun Dn σ H h => (canS_bind (R := RI g) h).imp fun J H1 ⟨ds, rh, mu1, th1, hJ, r1, h1⟩ => can_loop hJ r1 h1
end
/-! a while of at most n turns -/
def loopW (t : M Bool) (b : MS) : Nat → MS
  | 0 => fun _ _ => none
  | n + 1 => bindS t fun c => if c = true then fun rh mu => match b rh mu with
      | some (.nx r, mu1) => loopW t b n r mu1
      | some (.ct r, mu1) => loopW t b n r mu1
      | some (.bk r, mu1) => some (.nx r, mu1)
      | o => o
    else sSkip
section
variable {X : Cx} {g : Gam} {W : WX} {pos : Pos} {c : Expr} {body : List Stmt} {t : M Bool} {b : MS}
theorem pms_while (n : Nat) (hp : PassesOwn (model X.prog X.w) X.A X.env X.xe) (hc : PT X c (canT g W t)) (hb : PSs X body (canS g W b)) : PS X (.While c body [] pos) (canS g W (loopW t b n)) :=
  PSimp (ps_while hp hc hb) fun Dn σ0 H0 ⟨rh0, mu0, th0, r0, h0⟩ => by
    refine ⟨fun m σ H => ∃ rh mu th, Rl g rh mu th σ H ∧ canSAt g W (loopW t b m) rh mu th Dn H, ⟨n, rh0, mu0, th0, r0, h0⟩, ?_⟩
    rintro m σ H ⟨rh, mu, th, r, h⟩
    cases m with
    | zero => obtain ⟨o, mu', e, _⟩ := h; cases e
    | succ m =>
      refine ⟨rh, mu, th, r, (canSAt_bind (R := RT) r h).imp fun k H1 ⟨d, mu1, th1, f1, hd, r1, h1⟩ => ?_⟩
      subst hd
      cases d with
      | false =>
        rw [if_neg Bool.false_ne_true]
        exact canSAt_skip r1 h1
      | true =>
        rw [if_pos rfl]
        refine ⟨fun σ' H' => ∃ rh mu th, Rl g rh mu th σ' H' ∧ canSAt g W (loopW t b m) rh mu th Dn H', fun σ' H' n => ⟨m, Nat.lt_succ_self m, n⟩, rh, mu1, th1, r1, ?_⟩
        obtain ⟨o, mu', e, q⟩ := h1
        have e : (match b rh mu1 with
          | some (.nx r, mu1) => loopW t b m r mu1
          | some (.ct r, mu1) => loopW t b m r mu1
          | some (.bk r, mu1) => some (.nx r, mu1)
          | o => o) = some (o, mu') := e
        cases hbb : b rh mu1 with
        | none => rw [hbb] at e; cases e
        | some p =>
          obtain ⟨ob, mub⟩ := p
          rw [hbb] at e
          refine ⟨ob, mub, hbb, ?_⟩
          have next : ∀ r', loopW t b m r' mub = some (o, mu') → ∀ (th' : Th) (σ' : L2.St) (Hn : Hp), Fw g th1 mu1 H1 th' mub Hn → Rl g r' mub th' σ' Hn → ∃ rh mu th, Rl g rh mu th σ' Hn ∧ canSAt g W (loopW t b m) rh mu th Dn Hn := fun r' e2 th' σ' Hn f' rl' => ⟨r', mub, th', rl', o, mu', e2, by
            cases o with
            | nx r => exact fun th2 σ2 H2 f2 => q th2 σ2 H2 (f'.trans f2)
            | bk r => exact fun th2 σ2 H2 f2 => q th2 σ2 H2 (f'.trans f2)
            | ct r => exact fun th2 σ2 H2 f2 => q th2 σ2 H2 (f'.trans f2)
            | rt d => exact fun th2 v H2 f2 => q th2 v H2 (f'.trans f2)
            | er x r => exact fun th2 cls dd σ2 H2 f2 => q th2 cls dd σ2 H2 (f'.trans f2)⟩
          cases ob with
          | nx r' => exact fun th' σ' Hn f' rl' => next r' e th' σ' Hn f' rl'
          | ct r' => exact fun th' σ' Hn f' rl' => next r' e th' σ' Hn f' rl'
          | bk r' =>
            have e' : (Out.nx r', mub) = (o, mu') := Option.some.inj e
            cases e'
            exact fun th' σ' Hn f' rl' => q th' σ' Hn f' rl'
          | rt d =>
            have e' : (Out.rt d, mub) = (o, mu') := Option.some.inj e
            cases e'
            exact fun th' v Hn f' => q th' v Hn f'
          | er x r' =>
            have e' : (Out.er x r', mub) = (o, mu') := Option.some.inj e
            cases e'
            exact fun th' cls dd σ' Hn f' => q th' cls dd σ' Hn f'
end
end Eb

/-! Eb: defs and their calls, objects, what a loop walks, comprehensions. -/
namespace Eb
open PySem L2
open Evl (Ex ex_l ex_t)
/-- a def's promise: its function of the data -/
def spM (g : Gam) (f : Phi) : Sp := fun vs H Q E => ∃ ds mu th r mu', Ok g th mu H ∧ RpL g th (Gz th mu H) ds vs ∧ f ds mu = some (r, mu') ∧ match r with
  | .ok d => ∀ th' v H', Fw g th mu H th' mu' H' → Rp g th' (Gz th' mu' H') d v → Q v H'
  | .er x => ∀ th' cls dd H', Fw g th mu H th' mu' H' → RpX g th' (Gz th' mu' H') x cls dd → E cls dd H'
/-- a body of np parameters and n names -/
def mBody (np n : Nat) (b : MS) : Phi := fun ds mu => if ds.length = np then
    match b (ds.map some ++ List.replicate (n - np) none) mu with
    | some (.nx _, mu') => some (.ok .non, mu')
    | some (.rt d, mu') => some (.ok d, mu')
    | some (.er x _, mu') => some (.er x, mu')
    | _ => none
  else none
theorem mBody_len {np n : Nat} {b : MS} {ds : List D} {mu : Mu} {p : Rs D × Mu} (h : mBody np n b ds mu = some p) : ds.length = np := by
  unfold mBody at h
  split at h
  · assumption
  · cases h
section
variable {P : Program} {w : World} {K : PySem.W.Frag} {mg : Str → Option Value} {base : Heap} {g : Gam}
theorem start_rl {ds : List D} {vs : List V} {mu : Mu} {th : Th} {H : Hp} {N : List Str} {np : Nat} (o : Ok g th mu H) (h : RpL g th (Gz th mu H) ds vs) (hl : ds.length = np) (hN : np ≤ N.length) :
    Rl g (ds.map some ++ List.replicate (N.length - np) none) mu th (L2.start N vs) H := by
  have hv := h.length
  refine ⟨o, ?_, fun i d e => ?_⟩
  · unfold L2.start
    simp [hv, hl]
  · have hi : i < ds.length := by
      by_cases hi : i < ds.length
      · exact hi
      · rw [List.getElem?_append_right (by simpa using hi)] at e
        have := List.mem_of_getElem? e
        rw [List.mem_replicate] at this
        cases this.2
    rw [List.getElem?_append_left (by simpa using hi), List.getElem?_map] at e
    cases hd : ds[i]? with
    | none => rw [hd] at e; cases e
    | some d' =>
      rw [hd] at e
      have : d' = d := Option.some.inj (Option.some.inj e)
      subst this
      obtain ⟨v, e1, e2⟩ := h.get hd
      refine ⟨v, ?_, e2⟩
      unfold L2.start
      rw [List.getElem?_append_left (by rw [List.length_map, hv]; exact hi), List.getElem?_map, e1]
      rfl
theorem body_can {W : WX} {E : XK} {b : MS} {np n : Nat} {N : List Str} {vs : List V} {H : Hp} {Q : VK} (hN : N.length = n) (hnp : np ≤ n) (hW : ∀ cls d σ H, E cls d H → W cls d σ H) (h : spM g (mBody np n b) vs H Q E) :
    canS g W b { nx := fun _ H' => Q .non H', rt := Q } (L2.start N vs) H := by
  obtain ⟨ds, mu, th, r, mu', o, hd, e, q⟩ := h
  have hl := mBody_len e
  unfold mBody at e
  rw [if_pos hl] at e
  have rl := start_rl (N := N) o hd hl (by rw [hN]; exact hnp)
  rw [hN] at rl
  refine ⟨_, mu, th, rl, ?_⟩
  split at e
  · rename_i r' mu1 he
    have e' : (Rs.ok D.non, mu1) = (r, mu') := Option.some.inj e
    cases e'
    exact ⟨_, _, he, fun th' σ' H' f _ => q th' .non H' f rfl⟩
  · rename_i d mu1 he
    have e' : (Rs.ok d, mu1) = (r, mu') := Option.some.inj e
    cases e'
    exact ⟨_, _, he, fun th' v H' f hv => q th' v H' f hv⟩
  · rename_i x r' mu1 he
    have e' : (Rs.er x, mu1) = (r, mu') := Option.some.inj e
    cases e'
    exact ⟨_, _, he, fun th' cls dd σ' H' f _ hx => hW _ _ _ _ (q th' cls dd H' f hx)⟩
  · cases e
/-- THE RULE for a def that may raise -/
theorem okM {x qual : Str} {st : Stmt} {f : Addr} {fd : FuncData} {N ps : List Str} {k np n : Nat} {b : MS} (F : Fun K x qual st f fd) (S : FnScope N ps (defScope st)) (hN : N.length = n) (hps : ps.length = np) (hnp : np ≤ n)
    (h : ∀ (cdv : Value) (A : Around) (outer : List Env) (s : Shared) (H : Hp) (E : XK), Room k (A.deeper (PyProof.Rows.envOfC qual (defScope st) s.heap.objs.size f cdv)) →
      PSs (cxOf (L2.CX P w) P w K mg base N qual (defScope st) f cdv A outer s H E) (defBody st) (canS g (fun cls d _ H => E cls d H) b)) : FnOk P w K mg base (L2.CX P w) (k + 1) f fd ps (spM g (mBody np n b)) :=
  F.okX S (fun vs H Q E ⟨ds, mu, th, r, mu', o, hd, e, _⟩ => by rw [hps, hd.length]; exact mBody_len e) fun cdv A outer s H vs Q E hr hs =>
    ⟨_, h cdv A outer s H E hr, body_can hN hnp (fun _ _ _ _ z => z) hs⟩
/-- .. for one that lets nothing out -/
theorem okM0 {x qual : Str} {st : Stmt} {f : Addr} {fd : FuncData} {N ps : List Str} {k np n : Nat} {b : MS} (F : Fun K x qual st f fd) (S : FnScope N ps (defScope st)) (hN : N.length = n) (hps : ps.length = np) (hnp : np ≤ n)
    (h : ∀ (cdv : Value) (A : Around) (outer : List Env) (s : Shared) (H : Hp) (E : XK), Room k (A.deeper (PyProof.Rows.envOfC qual (defScope st) s.heap.objs.size f cdv)) →
      PSs (cxOf CX0 P w K mg base N qual (defScope st) f cdv A outer s H E).nox (defBody st) (canS g (fun _ _ _ _ => True) b)) : FnOk P w K mg base CX0 (k + 1) f fd ps (spM g (mBody np n b)) :=
  F.ok S (fun vs H Q E ⟨ds, mu, th, r, mu', o, hd, e, _⟩ => by rw [hps, hd.length]; exact mBody_len e) fun cdv A outer s H vs Q E hr hs =>
    ⟨_, h cdv A outer s H E hr, body_can hN hnp (fun _ _ _ _ _ => trivial) hs⟩
end
/-! ### calls -/
def mCall (f : Phi) (mr : M (List D)) : ME := bindM mr fun ds _ mu => f ds mu
section
variable {X : Cx} {CX : CXT} {k : Nat} {f : Addr} {fd : FuncData} {ps : List Str} {g : Gam} {W : WX} {x m : Str} {p pos apos : Pos} {e o : Expr} {es : List Expr} {ma : ME} {mr : M (List D)} {ph : Phi}
theorem at_sp {ds : List D} {vs : List V} {rh : Rho} {mu : Mu} {th : Th} {σ : L2.St} {H : Hp} {Q : VK} {E : XK} (hE : ∀ cls d H, W cls d σ H → E cls d H) (r : Rl g rh mu th σ H) (hd : RpL g th (Gz th mu H) ds vs) (h : canAt g W (RE g) (fun _ mu => ph ds mu) rh mu th σ H Q) : spM g ph vs H Q E := by
  obtain ⟨s, mu', e, q⟩ := h
  refine ⟨ds, mu, th, s, mu', r.ok, hd, e, ?_⟩
  cases s with
  | ok d => exact q
  | er x => exact fun th' cls dd H' f hx => hE _ _ _ (q th' cls dd H' f hx)
theorem pm_call (F : FnOk X.prog X.w X.K X.mg X.base CX k f fd ps (spM g ph)) (hr : Room k X.A) (hm : X.mg x = some (.ref f)) (hk : PySem.W.keepIn X.K (.ref f) = true) (hb : Binds X.K fd ps []) (hx : ∀ σ, PassesAt CX X σ (WE W σ))
    (ha : PA X (e :: es) (canA g W mr)) (hg : Gl X x := by rfl) (hdb : (x == ("__debug__" : Str)) = false := by decide) (he : starEach (e :: es) X.env = (false, eval e X.env) :: starEach es X.env := by rfl) (hpl : (backTo pos (starEach es X.env)).any (·.1) = false := by rfl) :
    PE X (.Call (.Name x p) (e :: es) [] pos) (canE g W (mCall ph mr)) :=
  PEimp (pe_callS F hr hg hm hk hb hx ha hdb he hpl) fun σ H Q h => (can_bind (R := RA g) h).imp fun vs H1 ⟨ds, rh, mu1, th1, hd, r1, h1⟩ => at_sp (fun _ _ _ z => z) r1 hd h1
/-- o.m(..), the wish being the def's -/
def insOf (mu : Mu) : D → Option (Nat × List D)
  | .ins c ds => some (c, ds)
  | .cel k => match mu[k]? with
    | some (.ins c ds) => some (c, ds)
    | _ => none
  | _ => none
theorem ins_at {d : D} {v : V} {c : Nat} {ds : List D} {mu : Mu} {th : Th} {H : Hp} (o : Ok g th mu H) (h : Rp g th (Gz th mu H) d v) (e : insOf mu d = some (c, ds)) :
    ∃ a dx ys xs, v = .ref a ∧ H a = some (.ins (g.cls c) dx ys) ∧ ys = ((g.flds c).take ds.length).zip xs ∧ ds.length ≤ (g.flds c).length ∧ RpL g th (Gz th mu H) ds xs := by
  unfold insOf at e
  split at e
  · have e' := Option.some.inj e
    cases e'
    obtain ⟨a, dx, ys, xs, e1, e2, e3, e4, e5⟩ := h
    exact ⟨a, dx, ys, xs, e1, Gz_sub _ _ e2, e3, e4, e5⟩
  · split at e
    · rename_i c' ds' hk
      have e' := Option.some.inj e
      cases e'
      obtain ⟨a, e1, e2⟩ := h
      obtain ⟨dx, ys, xs, q1, q2, q3, q4⟩ := o.cel _ a _ e2 hk
      exact ⟨a, dx, ys, xs, e1, q1, q2, q3, q4⟩
    · cases e
  · cases e
/-- an attribute among the names, by its place -/
theorem lookup_zip : ∀ {fs : List Str} {xs : List V} {i n : Nat} {f : Str}, fs.Nodup → fs[i]? = some f → xs.length = n → i < n → n ≤ fs.length → ((fs.take n).zip xs).lookup f = xs[i]?
  | [], xs, i, n, f, _, h, _, _, _ => by simp at h
  | a :: fs, [], i, n, f, _, _, h, l, _ => by simp at h; omega
  | a :: fs, x :: xs, i, 0, f, _, _, h, _, _ => by simp at h
  | a :: fs, x :: xs, 0, n + 1, f, _, h, _, _, _ => by
    have : a = f := by simpa using h
    subst this
    simp [List.lookup]
  | a :: fs, x :: xs, i + 1, n + 1, f, nd, h, hl, hi, hn => by
    have hf : fs[i]? = some f := by simpa using h
    have ne : f ≠ a := by
      rintro rfl
      exact (List.nodup_cons.mp nd).1 (List.mem_of_getElem? hf)
    have nb : (f == a) = false := by simpa using ne
    show (((a :: fs.take n).zip (x :: xs))).lookup f = (x :: xs)[i + 1]?
    rw [List.zip_cons_cons, List.lookup_cons, nb]
    simpa using lookup_zip (List.nodup_cons.mp nd).2 hf (by simpa using hl) (by omega) (by simpa using hn)
theorem lookup_zip_none {fs : List Str} {xs : List V} {n : Nat} {f : Str} (h : f ∉ fs) : ((fs.take n).zip xs).lookup f = none := by
  induction fs generalizing xs n with
  | nil => simp
  | cons a fs ih =>
    cases n with
    | zero => simp
    | succ n =>
      cases xs with
      | nil => simp
      | cons x xs =>
        have ne : (f == a) = false := by
          have : f ≠ a := fun z => h (by simp [z])
          simpa using this
        show (((a :: fs.take n).zip (x :: xs))).lookup f = none
        rw [List.zip_cons_cons, List.lookup_cons, ne]
        exact ih fun z => h (List.mem_cons_of_mem _ z)
/-- a class's attributes as the walk asks for them -/
structure ClsOk (g : Gam) (c : Nat) : Prop where
  cl : Cls g.K (g.cls c)
  nd : (g.flds c).Nodup
  na : ∀ f ∈ g.flds c, NoAttr g.K (g.cls c) f
  few : (g.flds c).length < 1000
def mFld (c i : Nat) (ma : ME) : ME := bindM ma fun d => lift fun mu => (insOf mu d).bind fun p => if p.1 = c then p.2[i]? else none
theorem pm_fld (c i : Nat) {f : Str} (hK : X.K = g.K) (T : ClsOk g c) (hf : (g.flds c)[i]? = some f) (he : PE X e (canE g W ma)) (hb : attributeBase e f X.env (eval e X.env) = eval e X.env := by rfl) : PE X (.Attribute e f pos) (canE g W (mFld c i ma)) :=
  PEimp (pe_fld he hb) fun σ H Q h => (can_bind (R := RE g) h).imp fun v H1 ⟨d, rh, mu1, th1, hd, r1, h1⟩ => by
    obtain ⟨x, e1, q⟩ := canAt_lift r1 h1
    cases hi : insOf mu1 d with
    | none => rw [hi] at e1; cases e1
    | some p =>
      obtain ⟨c', ds⟩ := p
      rw [hi] at e1
      have e9 : (if c' = c then ds[i]? else none) = some x := e1
      clear e1
      split at e9
      · rename_i ec
        subst ec
        obtain ⟨a, dx, ys, xs, q1, q2, q3, q4, q5⟩ := ins_at r1.ok hd hi
        obtain ⟨y, e2, e3⟩ := q5.get e9
        have hlt : i < ds.length := (List.getElem?_eq_some_iff.mp e9).1
        refine ⟨a, g.cls c', dx, ys, y, q1, q2, by rw [hK]; exact T.cl, by rw [hK]; exact T.na f (List.mem_of_getElem? hf), ?_, q th1 y H1 (Fw.refl r1.ok) e3⟩
        rw [q3, lookup_zip T.nd hf q5.length hlt q4]
        exact e2
      · cases e9
def mMeth (c : Nat) (f : Phi) (ma : ME) (mr : M (List D)) : ME := bindM ma fun o => bindM (lift fun mu => (insOf mu o).bind fun p => if p.1 = c then some () else none) fun _ => bindM mr fun ds _ mu => f (o :: ds) mu
theorem can_meth (c : Nat) {E : XK} (T : ClsOk g c) (hm : m ∉ g.flds c) (hE : ∀ cls d σ H, W cls d σ H → E cls d H) {σ : L2.St} {H : Hp} {Q : VK} (h : canE g W (mMeth c ph ma mr) σ H Q) : tMeth (g.cls c) m (spM g ph) [] E (canE g W ma) (canA g W mr) σ H Q :=
  (can_bind (R := RE g) h).imp fun v H1 ⟨d, rh, mu1, th1, hd, r1, h1⟩ => by
    obtain ⟨s, mu2, e2, q2⟩ := canAt_bind (R := fun _ _ (a : Unit) (b : Unit) => a = b) r1 h1
    have e2 : ((insOf mu1 d).bind fun p => if p.1 = c then some () else none).map (fun a => (Rs.ok a, mu1)) = some (s, mu2) := e2
    cases hi : insOf mu1 d with
    | none => rw [hi] at e2; cases e2
    | some p =>
      obtain ⟨c', ds⟩ := p
      rw [hi] at e2
      have e9 : (if c' = c then some () else none).map (fun a => (Rs.ok a, mu1)) = some (s, mu2) := e2
      clear e2
      split at e9
      · rename_i ec
        subst ec
        have e' : (Rs.ok (), mu1) = (s, mu2) := Option.some.inj e9
        cases e'
        obtain ⟨a, dx, ys, xs, q1, q2', q3, q4, q5⟩ := ins_at r1.ok hd hi
        refine ⟨a, dx, ys, q1, q2', by rw [q3]; exact lookup_zip_none hm, ?_⟩
        obtain ⟨_, mu3, th3, f3, _, r3, h3⟩ := q2 th1 () H1 (Fw.refl r1.ok) rfl
        refine ⟨rh, mu3, th3, r3, (canAt_bind (R := RA g) r3 h3).imp fun vs H4 ⟨es, mu4, th4, f4, hs, r4, h4⟩ => ?_⟩
        rw [List.append_nil]
        exact at_sp (ds := d :: es) (fun cls dd H => hE cls dd σ H) r4 ⟨v, vs, rfl, hd.mono (f3.trans f4).pf (f3.trans f4).ex, hs⟩ h4
      · cases e9
theorem pm_meth (c : Nat) {E : XK} {pl : Sem Bool} (hK : X.K = g.K) (T : ClsOk g c) (hn : m ∉ g.flds c) (hE : ∀ cls d σ H, W cls d σ H → E cls d H) (he : PE X o (canE g W ma)) (hm : Meth g.K (g.cls c) m f) (F : FnOk X.prog X.w X.K X.mg X.base CX k f fd ps (spM g ph)) (hr : Room k X.A)
    (hb : Binds X.K fd ps []) (hx : Passes CX X E) (ha : PA X (e :: es) (canA g W mr))
    (hst : starEach (e :: es) X.env = (false, eval e X.env) :: starEach es X.env := by rfl) (hpl : (backTo pos (starEach es X.env)).any (·.1) = false := by rfl)
    (ht : eval (.Call (.Attribute o m apos) (e :: es) [] pos) X.env = (do
      let ov ← eval o X.env
      standAt apos.atName
      let (f, first) ← holding [ov] (getMethod ov m pl)
      callWith pos f first (backTo pos (starEach (e :: es) X.env)) (backToKw pos (keywordEach [] X.env))) := by rfl) : PE X (.Call (.Attribute o m apos) (e :: es) [] pos) (canE g W (mMeth c ph ma mr)) :=
  PEimp (pe_meth he (by rw [hK]; exact T.cl) (by rw [hK]; exact hm) F hr hb .nil hx ha hst hpl ht) fun σ H Q h => can_meth c T hn hE h
theorem pm_meth0 (c : Nat) {E : XK} {pl : Sem Bool} (hK : X.K = g.K) (T : ClsOk g c) (hn : m ∉ g.flds c) (hE : ∀ cls d σ H, W cls d σ H → E cls d H) (he : PE X o (canE g W ma)) (hm : Meth g.K (g.cls c) m f) (F : FnOk X.prog X.w X.K X.mg X.base CX k f fd ps (spM g ph)) (hr : Room k X.A)
    (hb : Binds X.K fd ps []) (hx : Passes CX X E)
    (ht : eval (.Call (.Attribute o m apos) [] [] pos) X.env = (do
      let ov ← eval o X.env
      standAt apos.atName
      let (f, first) ← holding [ov] (getMethod ov m pl)
      callWith pos f first (backTo pos (starEach [] X.env)) (backToKw pos (keywordEach [] X.env))) := by rfl) : PE X (.Call (.Attribute o m apos) [] [] pos) (canE g W (mMeth c ph ma mNil)) :=
  PEimp (pe_meth0 he (by rw [hK]; exact T.cl) (by rw [hK]; exact hm) F hr hb .nil hx ht) fun σ H Q h => by
    have q := can_meth (mr := mNil) c T hn hE h
    refine can.imp q fun v H1 ⟨a, dx, ys, q1, q2, q3, q4⟩ => ⟨a, dx, ys, q1, q2, q3, ?_⟩
    obtain ⟨rh, mu, th, r, h4⟩ := q4
    exact canAt_ret (R := RA g) r h4 th [] H1 (Fw.refl r.ok) rfl
/-- C(..): a new object -/
def mMake (c : Nat) (f : Phi) (mr : M (List D)) : ME := bindM mr fun ds _ mu => match f (.cel mu.length :: ds) (mu ++ [.ins c []]) with
  | some (.ok .non, mu') => some (.ok (.cel mu.length), mu')
  | some (.er x, mu') => some (.er x, mu')
  | _ => none
theorem pm_make (c : Nat) {E : XK} (hE : ∀ cls d σ H, W cls d σ H → E cls d H) (Mk : L2.Mk X.K (g.cls c) f) (F : FnOk X.prog X.w X.K X.mg X.base CX k f fd ps (spM g ph)) (hr : Room (k + 1) X.A) (hm : X.mg x = some (.ref (g.cls c))) (hb : Binds X.K fd ps []) (hx : Passes CX X E)
    (ha : PA X (e :: es) (canA g W mr)) (hg : Gl X x := by rfl) (hdb : (x == ("__debug__" : Str)) = false := by decide) (he : starEach (e :: es) X.env = (false, eval e X.env) :: starEach es X.env := by rfl) (hpl : (backTo pos (starEach es X.env)).any (·.1) = false := by rfl) :
    PE X (.Call (.Name x p) (e :: es) [] pos) (canE g W (mMake c ph mr)) :=
  PEimp (pe_make Mk F hr hg hm hb .nil hx ha hdb he hpl) fun σ H Q h => (can_bind (R := RA g) h).imp fun vs H1 ⟨ds, rh, mu1, th1, hd, r1, h1⟩ => by
    intro a dx na ndx ne
    obtain ⟨s, mu', e1, q⟩ := h1
    have ex1 : Ex H1 (upd H1 dx (.own a)) := Evl.Ex.new ndx
    have o1 := r1.ok.ex ex1
    have na1 : (upd H1 dx (.own a)) a = none := by rw [upd_ne (Ne.symm ne)]; exact na
    obtain ⟨o2, eg⟩ := o1.push (u := .ins (g.cls c) dx []) (c := .ins c []) na1 rfl fun th' G' _ _ => ⟨dx, [], [], upd_same, by simp, by simp, rfl⟩
    have f2 : Fw g th1 mu1 H1 (th1.add a) (mu1 ++ [.ins c []]) (upd (upd H1 dx (.own a)) a (.ins (g.cls c) dx [])) := ⟨Pfx.add, o2, by rw [eg]; exact Gz_ex ex1, fun b m => by
      obtain ⟨_, u, hu, _⟩ := r1.ok.hid b m
      rw [upd_ne (ne_of_none hu na), hu]
      exact ex1 b u hu⟩
    have e1 : (match ph (.cel mu1.length :: ds) (mu1 ++ [.ins c []]) with
      | some (.ok .non, mu') => some (.ok (.cel mu1.length), mu')
      | some (.er x, mu') => some (.er x, mu')
      | _ => none) = some (s, mu') := e1
    have hd2 : RpL g (th1.add a) (Gz (th1.add a) (mu1 ++ [.ins c []]) (upd (upd H1 dx (.own a)) a (.ins (g.cls c) dx []))) (.cel mu1.length :: ds) (.ref a :: vs) :=
      ⟨.ref a, vs, rfl, ⟨a, rfl, by show (th1.ids ++ [a])[mu1.length]? = some a; rw [← r1.ok.len]; simp⟩, RpL.mono f2.pf f2.ex _ _ hd⟩
    rw [List.append_nil]
    split at e1
    · rename_i mu2 hp
      have e' : (Rs.ok (D.cel mu1.length), mu2) = (s, mu') := Option.some.inj e1
      cases e'
      refine ⟨_, _, _, _, _, o2, hd2, hp, fun th' v H' f hv => ⟨hv, q th' (.ref a) H' (f2.trans f) ⟨a, rfl, ?_⟩⟩⟩
      exact f.pf.get (by show (th1.ids ++ [a])[mu1.length]? = some a; rw [← r1.ok.len]; simp)
    · rename_i x' mu2 hp
      have e' : (Rs.er x', mu2) = (s, mu') := Option.some.inj e1
      cases e'
      exact ⟨_, _, _, _, _, o2, hd2, hp, fun th' cls dd H' f hx' => hE _ _ _ _ (q th' cls dd H' (f2.trans f) hx')⟩
    · cases e1
end
end Eb

/-! Eb: attributes stored, cells frozen, what a loop walks, comprehensions. -/
namespace Eb
open PySem L2
open Evl (Ex ex_l ex_t)
/-! ### attributes stored -/
theorem putF_zip : ∀ {fs : List Str} {xs : List V} {i n : Nat} {f : Str} {v : V}, fs.Nodup → fs[i]? = some f → xs.length = n → i < n → n ≤ fs.length → putF f v ((fs.take n).zip xs) = (fs.take n).zip (xs.set i v)
  | [], xs, i, n, f, v, _, h, _, _, _ => by simp at h
  | a :: fs, [], i, n, f, v, _, _, h, l, _ => by simp at h; omega
  | a :: fs, x :: xs, i, 0, f, v, _, _, h, _, _ => by simp at h
  | a :: fs, x :: xs, 0, n + 1, f, v, _, h, _, _, _ => by
    have : a = f := by simpa using h
    subst this
    show putF a v ((a, x) :: (fs.take n).zip xs) = (a, v) :: (fs.take n).zip xs
    unfold putF
    rw [if_pos rfl]
  | a :: fs, x :: xs, i + 1, n + 1, f, v, nd, h, hl, hi, hn => by
    have hf : fs[i]? = some f := by simpa using h
    have ne : ¬ a = f := by
      rintro rfl
      exact (List.nodup_cons.mp nd).1 (List.mem_of_getElem? hf)
    show putF f v ((a, x) :: (fs.take n).zip xs) = (a, x) :: (fs.take n).zip (xs.set i v)
    unfold putF
    rw [if_neg ne, putF_zip (List.nodup_cons.mp nd).2 hf (by simpa using hl) (by omega) (by simpa using hn)]
theorem putF_end : ∀ {fs : List Str} {xs : List V} {n : Nat} {f : Str} {v : V}, fs.Nodup → fs[n]? = some f → xs.length = n → putF f v ((fs.take n).zip xs) = (fs.take (n + 1)).zip (xs ++ [v])
  | [], xs, n, f, v, _, h, _ => by simp at h
  | a :: fs, [], n, f, v, _, h, hl => by
    have : n = 0 := by simpa using hl.symm
    subst this
    have : a = f := by simpa using h
    subst this
    rfl
  | a :: fs, x :: xs, 0, f, v, _, _, hl => by simp at hl
  | a :: fs, x :: xs, n + 1, f, v, nd, h, hl => by
    have hf : fs[n]? = some f := by simpa using h
    have ne : ¬ a = f := by
      rintro rfl
      exact (List.nodup_cons.mp nd).1 (List.mem_of_getElem? hf)
    show putF f v ((a, x) :: (fs.take n).zip xs) = (a, x) :: (fs.take (n + 1)).zip (xs ++ [v])
    unfold putF
    rw [if_neg ne, putF_end (List.nodup_cons.mp nd).2 hf (by simpa using hl)]
def stF (c i : Nat) (o y : D) (mu : Mu) : Option Mu := match o with
  | .cel k => match mu[k]? with
    | some (.ins c' ds) => if c' = c then (if i < ds.length then some (mu.set k (.ins c (ds.set i y))) else if i = ds.length then some (mu.set k (.ins c (ds ++ [y]))) else none) else none
    | _ => none
  | _ => none
def sFldM (c i : Nat) (mo mv : ME) : MS := bindS mv fun y => bindS mo fun o rh mu => (stF c i o y mu).map fun mu' => (.nx rh, mu')
section
variable {X : Cx} {g : Gam} {W : WX} {pos pos' : Pos} {o value e : Expr} {mo mv ma : ME} {f : Str}
theorem pm_stF (c i : Nat) (hK : X.K = g.K) (T : ClsOk g c) (hf : (g.flds c)[i]? = some f) (ho : PE X o (canE g W mo)) (hv : PE X value (canE g W mv)) (hs : swapsWith value (some (.Attribute o f pos')) pos.line X.env = pure false := by rfl) :
    PS X (.Assign [.Attribute o f pos'] value pos) (canS g W (sFldM c i mo mv)) :=
  PSimp (ps_fld ho hv hs) fun Dn σ H h => (canS_bind (R := RE g) h).imp fun y H1 ⟨dy, rh, mu1, th1, hy, r1, h1⟩ => ⟨rh, mu1, th1, r1, (canSAt_bind (R := RE g) r1 h1).imp fun x H2 ⟨d, mu2, th2, f2, hd, r2, h2⟩ => by
    obtain ⟨ot, mu', e, q⟩ := h2
    have e : (stF c i d dy mu2).map (fun mu' => (Out.nx rh, mu')) = some (ot, mu') := e
    have hy2 := hy.mono f2.pf f2.ex
    cases hst : stF c i d dy mu2 with
    | none => rw [hst] at e; cases e
    | some mu3 =>
      rw [hst] at e
      have e' : (Out.nx rh, mu3) = (ot, mu') := Option.some.inj e
      cases e'
      unfold stF at hst
      split at hst
      · rename_i k
        split at hst
        · rename_i c' ds hk
          split at hst
          · rename_i ec
            subst ec
            obtain ⟨a, ea, ha⟩ := hd
            obtain ⟨dx, ys, xs, q1, q2, q3, q4⟩ := r2.ok.cel _ a _ ha hk
            have lf : (g.flds c').length < 1000 := T.few
            have ly : ys.length = ds.length := by
              rw [q2, List.length_zip, List.length_take, q4.length]
              omega
            have hs : i < (g.flds c').length := (List.getElem?_eq_some_iff.mp hf).1
            have fin : ∀ ds' xs', RpL g th2 (Gz th2 mu2 H2) ds' xs' → ds'.length ≤ (g.flds c').length → putF f y ys = ((g.flds c').take ds'.length).zip xs' → mu' = mu2.set k (.ins c' ds') → Dn.nx σ (upd H2 a (.ins (g.cls c') dx (putF f y ys))) := fun ds' xs' hx hl hp em => by
              obtain ⟨o3, e3, hh⟩ := r2.ok.write (u := .ins (g.cls c') dx (putF f y ys)) (c' := .ins c' ds') ha hk rfl rfl ⟨dx, _, xs', upd_same, hp, hl, hx⟩
              subst em
              have f3 : Fw g th2 mu2 H2 th2 (mu2.set k (.ins c' ds')) (upd H2 a (.ins (g.cls c') dx (putF f y ys))) := ⟨Pfx.refl, o3, by rw [e3]; exact fun _ _ z => z, hh⟩
              exact q th2 σ _ f3 (r2.fw f3)
            refine ⟨a, g.cls c', dx, ys, ea, q1, by rw [hK]; exact T.cl, by rw [hK]; exact T.na f (List.mem_of_getElem? hf), by omega, ?_⟩
            split at hst
            · rename_i hi
              exact fin _ (xs.set i y) (q4.set i hy2) (by simpa using q3) (by rw [q2, putF_zip T.nd hf q4.length hi q3, List.length_set]) (Option.some.inj hst).symm
            · split at hst
              · rename_i hi
                subst hi
                exact fin (ds ++ [dy]) (xs ++ [y]) (RpL.append q4 (es := [dy]) (ws := [y]) ⟨y, [], rfl, hy2, rfl⟩) (by rw [List.length_append]; exact hs) (by rw [q2, putF_end T.nd hf q4.length, List.length_append]; rfl) (Option.some.inj hst).symm
              · cases hst
          · cases hst
        · cases hst
      · cases hst⟩
/-! ### a cell is frozen: its content becomes a value -/
def frzD (d : D) (mu : Mu) : Option (D × Mu) := match d with
  | .cel k => match mu[k]? with
    | some (.lst ds) => some (.lst ds, mu.set k .dead)
    | some (.ins c ds) => some (.ins c ds, mu.set k .dead)
    | _ => none
  | d => some (d, mu)
theorem frz_ok {d d' : D} {mu mu' : Mu} {th : Th} {H : Hp} {v : V} (o : Ok g th mu H) (h : Rp g th (Gz th mu H) d v) (e : frzD d mu = some (d', mu')) : Fw g th mu H th mu' H ∧ Rp g th (Gz th mu' H) d' v := by
  unfold frzD at e
  split at e
  · rename_i k
    obtain ⟨a, ea, ha⟩ := h
    split at e
    · rename_i ds hk
      have e' := Option.some.inj e
      cases e'
      obtain ⟨o2, e2, ga⟩ := o.freeze ha hk rfl
      obtain ⟨xs, q1, q2⟩ := o.cel _ a _ ha hk
      exact ⟨⟨Pfx.refl, o2, e2, fun _ _ => rfl⟩, a, xs, ea, ga.trans q1, RpL.mono Pfx.refl e2 _ _ q2⟩
    · rename_i c ds hk
      have e' := Option.some.inj e
      cases e'
      obtain ⟨o2, e2, ga⟩ := o.freeze ha hk rfl
      obtain ⟨dx, ys, xs, q1, q2, q3, q4⟩ := o.cel _ a _ ha hk
      exact ⟨⟨Pfx.refl, o2, e2, fun _ _ => rfl⟩, a, dx, ys, xs, ea, ga.trans q1, q2, q3, RpL.mono Pfx.refl e2 _ _ q4⟩
    · cases e
  · have e' := Option.some.inj e
    cases e'
    exact ⟨Fw.refl o, h⟩
def mFrz (ma : ME) : ME := bindM ma fun d _ mu => (frzD d mu).map fun p => (.ok p.1, p.2)
theorem pm_frz (h : PE X e (canE g W ma)) : PE X e (canE g W (mFrz ma)) :=
  PEimp h fun σ H Q h => (can_bind (R := RE g) h).imp fun v H1 ⟨d, rh, mu1, th1, hd, r1, s, mu', e1, q⟩ => by
    have e1 : (frzD d mu1).map (fun p => (Rs.ok p.1, p.2)) = some (s, mu') := e1
    cases hf : frzD d mu1 with
    | none => rw [hf] at e1; cases e1
    | some p =>
      obtain ⟨d', mu2⟩ := p
      rw [hf] at e1
      have e' : (Rs.ok d', mu2) = (s, mu') := Option.some.inj e1
      cases e'
      obtain ⟨f, hv⟩ := frz_ok r1.ok hd hf
      exact q th1 v H1 f hv
end
/-! ### what a loop walks -/
def itemsOf : D → Option (List D)
  | .lst ds => some ds
  | .tup ds => some ds
  | .scr ns => some (ns.map .int)
  | .str z => some (z.cps.toList.map fun c => .str ⟨#[c]⟩)
  | _ => none
def mItems (ma : ME) : M (List D) := bindM ma fun d => lift fun _ => itemsOf d
theorem map_int_rp {g : Gam} {th : Th} {G : Hp} : ∀ ns : List Int, RpL g th G (ns.map .int) (ns.map V.int)
  | [] => rfl
  | n :: ns => ⟨_, _, rfl, rfl, map_int_rp ns⟩
section
variable {X : Cx} {g : Gam} {W : WX} {tg iter l a b c : Expr} {ma : ME} {mr : M (List D)} {p pos : Pos}
theorem PI.or {wi wi' : TI} (h : PI X tg iter wi) (h' : PI X tg iter wi') : PI X tg iter (fun σ H R => wi σ H R ∨ wi' σ H R) := ⟨fun pins s σ H R I hw => hw.elim (h.run pins s σ H R I) (h'.run pins s σ H R I)⟩
theorem walks_l {th : Th} {G : Hp} {K : PySem.W.Frag} {a : Addr} {xs : List V} {ds : List D} (hs : SqL K G a xs) (hd : RpL g th G ds xs) : WalksD g th G (Itl K a) ds := by
  intro th' mu' H' pf o ex i
  have eh : Ex G H' := ex.trans Gz_sub
  refine ⟨fun d e => ?_, fun e => ⟨xs, ex_l eh hs, by rw [hd.length, e]; exact Nat.le_refl _⟩⟩
  obtain ⟨v, e1, e2⟩ := hd.get e
  refine ⟨⟨xs, v, ex_l eh hs, e1⟩, fun x H'' y => ?_⟩
  obtain ⟨rfl, y⟩ := y
  have e3 := y xs (ex_l eh hs)
  rw [e1] at e3
  have : v = x := Option.some.inj e3
  subst this
  exact ⟨fun _ _ z => z, e2.monoI pf ex⟩
theorem walks_t {th : Th} {G : Hp} {K : PySem.W.Frag} {a : Addr} {xs : List V} {ds : List D} (hs : SqT K G a xs) (hd : RpL g th G ds xs) : WalksD g th G (Itt K a) ds := by
  intro th' mu' H' pf o ex i
  have eh : Ex G H' := ex.trans Gz_sub
  refine ⟨fun d e => ?_, fun e => ⟨xs, ex_t eh hs, by rw [hd.length, e]; exact Nat.le_refl _⟩⟩
  obtain ⟨v, e1, e2⟩ := hd.get e
  refine ⟨⟨xs, v, ex_t eh hs, e1⟩, fun x H'' y => ?_⟩
  obtain ⟨rfl, y⟩ := y
  have e3 := y xs (ex_t eh hs)
  rw [e1] at e3
  have : v = x := Option.some.inj e3
  subst this
  exact ⟨fun _ _ z => z, e2.monoI pf ex⟩
theorem walks_s {th : Th} {G : Hp} {z : Str} : WalksD g th G (Its z) (z.cps.toList.map fun c => .str ⟨#[c]⟩) := by
  intro th' mu' H' pf o ex i
  refine ⟨fun d e => ?_, fun e => ?_⟩
  · rw [List.getElem?_map] at e
    have hi : i < z.cps.size := by
      by_cases hi : i < z.cps.size
      · exact hi
      · rw [List.getElem?_eq_none (by simpa using hi)] at e; cases e
    refine ⟨hi, fun x H'' y => ?_⟩
    obtain ⟨rfl, c, hc, rfl⟩ := y
    refine ⟨fun _ _ z => z, ?_⟩
    have e2 : z.cps.toList[i]? = some c := by simpa using hc
    rw [e2] at e
    cases (Option.some.inj e)
    rfl
  · show z.cps.size ≤ i
    rw [e]
    simp
/-- the items of a list, a tuple or a text -/
theorem pmi_items (hK : X.K = g.K) (hl : PE X l (canE g W ma)) : PI X tg l (canI g W (mItems ma)) := by
  refine PIimp (PI.or (PI.or (pi_list hl) (pi_tup hl)) (pi_str hl)) fun σ H R h => ?_
  obtain ⟨rh, mu, th, r, s, mu', e, q⟩ := h
  unfold mItems bindM at e
  cases hm : ma rh mu with
  | none => rw [hm] at e; cases e
  | some p =>
    obtain ⟨t, mu1⟩ := p
    rw [hm] at e
    cases t with
    | er x =>
      have e' : (Rs.er x, mu1) = (s, mu') := Option.some.inj e
      cases e'
      exact .inl (.inl ⟨rh, mu, th, r, _, _, hm, q⟩)
    | ok d =>
      have e : (itemsOf d).map (fun a => (Rs.ok a, mu1)) = some (s, mu') := e
      cases hi : itemsOf d with
      | none => rw [hi] at e; cases e
      | some ds =>
        rw [hi] at e
        have e' : (Rs.ok ds, mu1) = (s, mu') := Option.some.inj e
        cases e'
        cases d with
        | lst es =>
          cases (Option.some.inj hi)
          refine .inl (.inl ⟨rh, mu, th, r, _, _, hm, fun th' b H' f hb => ?_⟩)
          obtain ⟨a, xs, e1, e2, e3⟩ := hb
          exact ⟨a, e1, ⟨xs, SqL.of (Gz_sub _ _ e2)⟩, q th' _ H' f (walks_l (SqL.of e2) e3)⟩
        | scr ns =>
          cases (Option.some.inj hi)
          refine .inl (.inl ⟨rh, mu, th, r, _, _, hm, fun th' b H' f hb => ?_⟩)
          obtain ⟨a, e1, e2⟩ := hb
          rw [hK]
          exact ⟨a, e1, ⟨_, ex_l Gz_sub e2⟩, q th' _ H' f (walks_l e2 (map_int_rp ns))⟩
        | tup es =>
          cases (Option.some.inj hi)
          refine .inl (.inr ⟨rh, mu, th, r, _, _, hm, fun th' b H' f hb => ?_⟩)
          obtain ⟨a, xs, e1, e2, e3⟩ := hb
          have e4 : SqT g.K (Gz th' mu' H') a xs := e2.elim (fun z => .inl (.inl z)) fun z => z.2.2
          rw [hK]
          exact ⟨a, e1, ⟨xs, ex_t Gz_sub e4⟩, q th' _ H' f (walks_t e4 e3)⟩
        | str z =>
          cases (Option.some.inj hi)
          refine .inr ⟨rh, mu, th, r, _, _, hm, fun th' b H' f hb => ?_⟩
          exact ⟨z, hb, q th' _ H' f walks_s⟩
        | _ => cases hi
/-- the ints of a range -/
def rngD (lo : Int) (n : Nat) : List D := (List.range n).map fun (i : Nat) => D.int (lo + (i : Int))
theorem walks_r {th : Th} {G : Hp} {lo : Int} {n : Nat} : WalksD g th G (Itr lo n) (rngD lo n) := by
  intro th' mu' H' pf o ex i
  unfold rngD
  refine ⟨fun d e => ?_, fun e => by rw [e]; show n ≤ _; simp⟩
  rw [List.getElem?_map] at e
  have hi : i < n := by
    by_cases hi : i < n
    · exact hi
    · rw [List.getElem?_eq_none (by simpa using hi)] at e; cases e
  rw [List.getElem?_range hi] at e
  have e' := Option.some.inj e
  subst e'
  exact ⟨hi, fun x H'' ⟨e1, e2⟩ => ⟨by rw [e1]; exact fun _ _ z => z, e2⟩⟩
def rng1 : List D → Option (List D)
  | [.int n] => if -1000000 ≤ n ∧ n ≤ 1000000 then some (rngD 0 n.toNat) else none
  | _ => none
def rng2 : List D → Option (List D)
  | [.int a, .int b] => if -1000000 ≤ a ∧ a ≤ 1000000 ∧ -1000000 ≤ b ∧ b ≤ 1000000 then some (rngD a (b - a).toNat) else none
  | _ => none
def rng3 : List D → Option (List D)
  | [.int a, .int b, .int (-1)] => if -1000000 ≤ a ∧ a ≤ 1000000 ∧ -1000000 ≤ b ∧ b ≤ 1000000 then some ((List.range (a - b).toNat).map fun (i : Nat) => D.int (a - (i : Int))) else none
  | _ => none
def mRng1 (mr : M (List D)) : M (List D) := bindM mr fun ds => lift fun _ => rng1 ds
def mRng2 (mr : M (List D)) : M (List D) := bindM mr fun ds => lift fun _ => rng2 ds
def mRng3 (mr : M (List D)) : M (List D) := bindM mr fun ds => lift fun _ => rng3 ds
theorem rpL1 {th : Th} {G : Hp} {d : D} {vs : List V} (h : RpL g th G [d] vs) : ∃ v, vs = [v] ∧ Rp g th G d v := by
  obtain ⟨v, r, e1, e2, e3⟩ := h
  exact ⟨v, by rw [e1, show r = [] from e3], e2⟩
theorem rpL2 {th : Th} {G : Hp} {d d' : D} {vs : List V} (h : RpL g th G [d, d'] vs) : ∃ v v', vs = [v, v'] ∧ Rp g th G d v ∧ Rp g th G d' v' := by
  obtain ⟨v, r, e1, e2, e3⟩ := h
  obtain ⟨v', rfl, e4⟩ := rpL1 e3
  exact ⟨v, v', e1, e2, e4⟩
theorem rpL3 {th : Th} {G : Hp} {d d' d2 : D} {vs : List V} (h : RpL g th G [d, d', d2] vs) : ∃ v v' v2, vs = [v, v', v2] ∧ Rp g th G d v ∧ Rp g th G d' v' ∧ Rp g th G d2 v2 := by
  obtain ⟨v, r, e1, e2, e3⟩ := h
  obtain ⟨v', v2, rfl, e4, e5⟩ := rpL2 e3
  exact ⟨v, v', v2, e1, e2, e4, e5⟩
theorem pmi_rng1 (hm : X.mg "range" = none) (ha : PA X [a] (canA g W mr)) (hg : Gl X "range" := by rfl) (hs : starEach [a] X.env = [(false, eval a X.env)] := by rfl) : PI X tg (.Call (.Name "range" p) [a] [] pos) (canI g W (mRng1 mr)) :=
  PIimp (pi_range1 hg hm ha hs) fun σ H R h => (can_bind (R := RA g) h).imp fun vs H1 ⟨ds, rh, mu1, th1, hd, r1, h1⟩ => by
    obtain ⟨es, e, q⟩ := canAt_lift r1 h1
    unfold rng1 at e
    split at e
    · rename_i n
      split at e
      · rename_i hn
        have e' := Option.some.inj e
        subst e'
        obtain ⟨v, rfl, hv⟩ := rpL1 hd
        have hv : v = .int n := hv
        subst hv
        exact ⟨n, rfl, by omega, by omega, q th1 _ H1 (Fw.refl r1.ok) walks_r⟩
      · cases e
    · cases e
theorem pmi_rng2 (hm : X.mg "range" = none) (ha : PA X [a, b] (canA g W mr)) (hg : Gl X "range" := by rfl) (hs : starEach [a, b] X.env = [(false, eval a X.env), (false, eval b X.env)] := by rfl) (hs2 : starEach [b] X.env = [(false, eval b X.env)] := by rfl) :
    PI X tg (.Call (.Name "range" p) [a, b] [] pos) (canI g W (mRng2 mr)) :=
  PIimp (pi_range2 hg hm ha hs hs2) fun σ H R h => (can_bind (R := RA g) h).imp fun vs H1 ⟨ds, rh, mu1, th1, hd, r1, h1⟩ => by
    obtain ⟨es, e, q⟩ := canAt_lift r1 h1
    unfold rng2 at e
    split at e
    · rename_i i j
      split at e
      · rename_i hn
        have e' := Option.some.inj e
        subst e'
        obtain ⟨v, v', rfl, hv, hv'⟩ := rpL2 hd
        have hv : v = .int i := hv
        have hv' : v' = .int j := hv'
        subst hv hv'
        exact ⟨i, j, rfl, by omega, q th1 _ H1 (Fw.refl r1.ok) walks_r⟩
      · cases e
    · cases e
end
/-! ### comprehensions -/
def wipeR (rh : Rho) : List Nat → Rho
  | [] => rh
  | v :: vs => (wipeR rh vs).set v none
theorem wipeR_len (rh : Rho) : ∀ vs : List Nat, (wipeR rh vs).length = rh.length
  | [] => rfl
  | v :: vs => by unfold wipeR; rw [List.length_set, wipeR_len rh vs]
theorem wipeR_some {rh : Rho} {i : Nat} {d : D} : ∀ {vs : List Nat}, (wipeR rh vs)[i]? = some (some d) → rh[i]? = some (some d) ∧ i ∉ vs
  | [], h => ⟨h, by simp⟩
  | v :: vs, h => by
    unfold wipeR at h
    by_cases e : v = i
    · subst e
      by_cases hl : v < (wipeR rh vs).length
      · rw [List.getElem?_set_self hl] at h; cases h
      · rw [List.getElem?_eq_none (by simpa using hl)] at h; cases h
    · rw [List.getElem?_set_ne e] at h
      obtain ⟨h1, h2⟩ := wipeR_some h
      exact ⟨h1, by simp only [List.mem_cons, not_or]; exact ⟨fun z => e z.symm, h2⟩⟩
theorem wipe_in {σ : L2.St} {i : Nat} : ∀ {vs : List Nat}, i ∈ vs → i < σ.length → (wipe σ vs)[i]? = some none
  | [], h, _ => by cases h
  | v :: vs, h, hl => by
    unfold wipe
    by_cases e : v = i
    · subst e
      rw [List.getElem?_set_self (by rw [wipe_length]; exact hl)]
    · rw [List.getElem?_set_ne e]
      exact wipe_in (by rcases List.mem_cons.mp h with z | z; exact absurd z.symm e; exact z) hl
theorem wipe_set {σ : L2.St} {i : Nat} {x : Option V} {vs : List Nat} (h : i ∈ vs) : wipe (σ.set i x) vs = wipe σ vs := by
  apply List.ext_getElem?
  intro j
  by_cases hj : j ∈ vs
  · by_cases hl : j < σ.length
    · rw [wipe_in hj (by simpa using hl), wipe_in hj hl]
    · rw [List.getElem?_eq_none (by rw [wipe_length]; simpa using hl), List.getElem?_eq_none (by rw [wipe_length]; simpa using hl)]
  · rw [wipe_out hj, wipe_out hj, List.getElem?_set_ne]
    rintro rfl
    exact hj h
theorem wipe_wipe {σ : L2.St} {vs : List Nat} : wipe (wipe σ vs) vs = wipe σ vs := by
  apply List.ext_getElem?
  intro j
  by_cases hj : j ∈ vs
  · by_cases hl : j < σ.length
    · rw [wipe_in hj (by rw [wipe_length]; exact hl), wipe_in hj hl]
    · rw [List.getElem?_eq_none (by rw [wipe_length, wipe_length]; simpa using hl), List.getElem?_eq_none (by rw [wipe_length]; simpa using hl)]
  · rw [wipe_out hj]
theorem Rl.wipe {g : Gam} {rh : Rho} {mu : Mu} {th : Th} {σ : L2.St} {H : Hp} (r : Rl g rh mu th σ H) (vs : List Nat) : Rl g (wipeR rh vs) mu th (L2.wipe σ vs) H :=
  ⟨r.ok, by rw [wipeR_len, wipe_length, r.len], fun i d e => by
    obtain ⟨e1, e2⟩ := wipeR_some e
    obtain ⟨v, e3, e4⟩ := r.slt i d e1
    exact ⟨v, by rw [wipe_out e2]; exact e3, e4⟩⟩
/-- a comprehension's target: it stores its own names alone -/
def TgLc (g : Gam) (own : List Nat) (G : TG) (t : Tg) : Prop := ∀ rh mu th d v σ H rh', Rl g rh mu th σ H → Rp g th (Gz th mu H) d v → t d rh = some rh' → ∀ Q : L2.St → Hp → Prop, (∀ σ', Rl g rh' mu th σ' H → wipe σ' own = wipe σ own → Q σ' H) → G v σ H Q
theorem tgLc_name {g : Gam} {own : List Nat} {j : Nat} (h : j ∈ own) : TgLc g own (gName j) (tNm j) := fun rh mu th d v σ H rh' r hd e Q k => by
  have e' : rh.set j (some d) = rh' := Option.some.inj e
  subst e'
  exact k _ (r.set j hd) (wipe_set h)
def lcLoop (t : Tg) (c : M Bool) (m : ME) (rh0 : Rho) : List D → Mu → Option (List D × Mu)
  | [], mu => some ([], mu)
  | d :: ds, mu => match t d rh0 with
    | none => none
    | some rh1 => match c rh1 mu with
      | some (.ok true, mu1) => match m rh1 mu1 with
        | some (.ok y, mu2) => (lcLoop t c m rh0 ds mu2).map fun p => (y :: p.1, p.2)
        | _ => none
      | some (.ok false, mu1) => lcLoop t c m rh0 ds mu1
      | _ => none
def mLc (own : List Nat) (it : M (List D)) (t : Tg) (c : M Bool) (m : ME) : ME := bindM it fun ds rh mu => match lcLoop t c m (wipeR rh own) ds mu with
  | some (ys, mu') => (few ys).map fun zs => (.ok (.lst zs), mu')
  | none => none
def mYes : M Bool := retM true
theorem canT_yes {g : Gam} {W : WX} {σ : L2.St} {H : Hp} {Q : Bool → Hp → Prop} (h : canT g W mYes σ H Q) : tYes σ H Q := by
  obtain ⟨rh, mu, th, r, h⟩ := h
  exact canAt_ret (R := RT) r h th true H (Fw.refl r.ok) rfl
section
variable {g : Gam} {W : WX} {it : M (List D)} {t : Tg} {c : M Bool} {m : ME} {G : TG} {own : List Nat} {σ : L2.St} {H : Hp} {Q : VK}
/-- as WalksD, the hidden things being as they were -/
def WalksH (g : Gam) (th : Th) (G H0 : Hp) (J : It) (ds : List D) : Prop := ∀ th' mu' H', (∃ r, th'.ids = th.ids ++ r) → Ok g th' mu' H' → Ex G (Gz th' mu' H') → (∀ a ∈ th.hid, H' a = H0 a) → ∀ i : Nat,
  (∀ d, ds[i]? = some d → J.go i H' ∧ ∀ x H'', J.yld i H' x H'' → Ex H' H'' ∧ Rp g th' (Gz th' mu' H'') d x) ∧ (i = ds.length → J.stop i H')
theorem WalksD.h {th : Th} {G H0 : Hp} {J : It} {ds : List D} (h : WalksD g th G J ds) : WalksH g th G H0 J ds := fun th' mu' H' e o ex _ => h th' mu' H' e o ex
theorem lc_core' (hT : TgLc g own G t) {J : It} {H1 : Hp} {ds zs : List D} {rh : Rho} {mu1 muF : Mu} {th1 : Th} (hJ : WalksH g th1 (Gz th1 mu1 H1) H1 J ds) (r1 : Rl g rh mu1 th1 σ H1) (hl : lcLoop t c m (wipeR rh own) ds mu1 = some (zs, muF)) (hz : zs.length ≤ 100000)
    (fin : ∀ p th acc H', H1 p = none → Pfx (th1.hide p) th → Ok g th muF H' → Ex (Gz th1 mu1 H1) (Gz th muF H') → (∀ a ∈ th1.hid, H' a = H1 a) → H' p = some (.lst acc) → RpL g th (Gz th muF H') zs acc → Q (.ref p) H') :
    tLc (fun _ _ R => R J H1) G (canT g (fun _ _ _ _ => False) c) (canE g (fun _ _ _ _ => False) m) own σ H1 Q := by
  intro p hp
  have np := r1.ok.new hp
  have eg0 : Gz (th1.hide p) mu1 (upd H1 p (.lst [])) = Gz th1 mu1 H1 := (Gz_hide np).trans (Gz_hide0 hp)
  have o1 : Ok g (th1.hide p) mu1 (upd H1 p (.lst [])) := r1.ok.hide hp (fun _ z => nomatch z)
  have rw0 : ∀ th mu H', Pfx (th1.hide p) th → Ok g th mu H' → Ex (Gz th1 mu1 H1) (Gz th mu H') → Rl g (wipeR rh own) mu th (wipe σ own) H' := fun th mu H' pf o ex => by
    have rw1 := r1.wipe own
    refine ⟨o, rw1.len, fun i d e => ?_⟩
    obtain ⟨v, e3, e4⟩ := rw1.slt i d e
    exact ⟨v, e3, (Rp.ids (th := th1) (th' := th1.hide p) rfl d v e4).mono pf ex⟩
  refine ⟨fun i n H' => n = ds.length - i ∧ i ≤ ds.length ∧ ∃ mu th acc dacc rest, Pfx (th1.hide p) th ∧ Ok g th mu H' ∧ Ex (Gz th1 mu1 H1) (Gz th mu H') ∧ (∀ a ∈ th1.hid, H' a = H1 a) ∧ H' p = some (.lst acc) ∧ RpL g th (Gz th mu H') dacc acc ∧ lcLoop t c m (wipeR rh own) (ds.drop i) mu = some (rest, muF) ∧ dacc ++ rest = zs,
    ⟨ds.length, by simp, Nat.zero_le _, mu1, th1.hide p, [], [], zs, Pfx.refl, o1, by rw [eg0]; exact fun _ _ z => z, fun a ma => upd_ne fun z => np (.inr (by rw [← z]; exact ma)), upd_same, rfl, by simpa using hl, rfl⟩, ?_⟩
  rintro i n H' ⟨rfl, hi, mu, th, acc, dacc, rest, pf, o, ex, hh, hpa, hacc, el, ez⟩
  have eth : th = Th.hide ⟨th.ids, th1.hid⟩ p := by
    obtain ⟨ids, hid⟩ := th
    have : hid = p :: th1.hid := pf.hid
    subst this
    rfl
  have nh : p ∉ th1.hid := fun z => np (.inr z)
  have o' : Ok g (Th.hide ⟨th.ids, th1.hid⟩ p) mu H' := eth ▸ o
  have wki := hJ th mu H' pf.ids o ex hh i
  by_cases hlt : i < ds.length
  · have ed : ds.drop i = ds[i] :: ds.drop (i + 1) := List.drop_eq_getElem_cons hlt
    obtain ⟨go, yl⟩ := wki.1 ds[i] (List.getElem?_eq_getElem hlt)
    rw [ed] at el
    refine .inr ⟨go, fun H2 => ∃ mu th acc dacc rest, Pfx (th1.hide p) th ∧ Ok g th mu H2 ∧ Ex (Gz th1 mu1 H1) (Gz th mu H2) ∧ (∀ a ∈ th1.hid, H2 a = H1 a) ∧ H2 p = some (.lst acc) ∧ RpL g th (Gz th mu H2) dacc acc ∧ lcLoop t c m (wipeR rh own) (ds.drop (i + 1)) mu = some (rest, muF) ∧ dacc ++ rest = zs, ?_, ?_⟩
    · intro H2 hw
      exact ⟨ds.length - (i + 1), by omega, rfl, hlt, hw⟩
    · intro x H2 y
      obtain ⟨ex2, hx⟩ := yl x H2 y
      have fh : Fw g th mu H' th mu H2 := Fw.heap o ex2
      have r2 : Rl g (wipeR rh own) mu th (wipe σ own) H2 := rw0 th mu H2 pf fh.ok (ex.trans fh.ex)
      have el : (match t ds[i] (wipeR rh own) with
        | none => none
        | some rh1 => match c rh1 mu with
          | some (.ok true, mu1) => match m rh1 mu1 with
            | some (.ok y, mu2) => (lcLoop t c m (wipeR rh own) (ds.drop (i + 1)) mu2).map fun p => (y :: p.1, p.2)
            | _ => none
          | some (.ok false, mu1) => lcLoop t c m (wipeR rh own) (ds.drop (i + 1)) mu1
          | _ => none) = some (rest, muF) := el
      cases ht : t ds[i] (wipeR rh own) with
      | none => rw [ht] at el; cases el
      | some rh1 =>
        rw [ht] at el
        have el : (match c rh1 mu with
          | some (.ok true, mu1) => match m rh1 mu1 with
            | some (.ok y, mu2) => (lcLoop t c m (wipeR rh own) (ds.drop (i + 1)) mu2).map fun p => (y :: p.1, p.2)
            | _ => none
          | some (.ok false, mu1) => lcLoop t c m (wipeR rh own) (ds.drop (i + 1)) mu1
          | _ => none) = some (rest, muF) := el
        refine hT _ _ _ _ _ _ _ _ r2 hx ht _ fun σ2 r3 hw => ⟨hw.trans wipe_wipe, rh1, mu, th, r3, ?_⟩
        have hid : ∀ th' mu' H3, Fw g th mu H2 th' mu' H3 → (∀ a ∈ th1.hid, H3 a = H1 a) ∧ H3 p = some (.lst acc) := fun th' mu' H3 f => by
          have g1 := f.hd
          have g2 : ∀ a ∈ th.hid, H2 a = H' a := fh.hd
          have hp : th.hid = p :: th1.hid := pf.hid
          rw [hp] at g1 g2
          exact ⟨fun a ma => by rw [g1 a (List.mem_cons_of_mem _ ma), g2 a (List.mem_cons_of_mem _ ma)]; exact hh a ma, by rw [g1 p List.mem_cons_self, g2 p List.mem_cons_self]; exact hpa⟩
        cases hc : c rh1 mu with
        | none => rw [hc] at el; cases el
        | some pc =>
          obtain ⟨rc, muc⟩ := pc
          rw [hc] at el
          cases rc with
          | er x => cases el
          | ok bc =>
            refine ⟨.ok bc, muc, hc, fun th2 b H3 f2 hb => ?_⟩
            have hb : bc = b := hb
            subst hb
            cases bc with
            | false =>
              show ∃ mu th acc dacc rest, _
              obtain ⟨k1, k2⟩ := hid th2 muc H3 f2
              have ff := fh.trans f2
              exact ⟨muc, th2, acc, dacc, rest, pf.trans ff.pf, f2.ok, ex.trans ff.ex, k1, k2, RpL.mono ff.pf ff.ex _ _ hacc, el, ez⟩
            | true =>
              show canE g (fun _ _ _ _ => False) m σ2 H3 _
              have el : (match m rh1 muc with
                | some (.ok y, mu2) => (lcLoop t c m (wipeR rh own) (ds.drop (i + 1)) mu2).map fun p => (y :: p.1, p.2)
                | _ => none) = some (rest, muF) := el
              refine ⟨rh1, muc, th2, r3.fw f2, ?_⟩
              cases hm : m rh1 muc with
              | none => rw [hm] at el; cases el
              | some pm =>
                obtain ⟨rm, mum⟩ := pm
                rw [hm] at el
                cases rm with
                | er x => cases el
                | ok dy =>
                  refine ⟨.ok dy, mum, hm, fun th3 y H4 f3 hy => ?_⟩
                  have f23 := f2.trans f3
                  obtain ⟨k1, k2⟩ := hid th3 mum H4 f23
                  have ff := fh.trans f23
                  have el : (lcLoop t c m (wipeR rh own) (ds.drop (i + 1)) mum).map (fun p => (dy :: p.1, p.2)) = some (rest, muF) := el
                  cases hr : lcLoop t c m (wipeR rh own) (ds.drop (i + 1)) mum with
                  | none => rw [hr] at el; cases el
                  | some pr =>
                    obtain ⟨rest2, mu4⟩ := pr
                    rw [hr] at el
                    have e' : (dy :: rest2, mu4) = (rest, muF) := Option.some.inj el
                    cases e'
                    have pf3 := pf.trans ff.pf
                    have eth3 : th3 = Th.hide ⟨th3.ids, th1.hid⟩ p := by
                      obtain ⟨ids, hd⟩ := th3
                      have : hd = p :: th1.hid := pf3.hid
                      subst this
                      rfl
                    have o4 : Ok g (Th.hide ⟨th3.ids, th1.hid⟩ p) mum H4 := eth3 ▸ f3.ok
                    have nown : p ∉ Eb.own th3.ids mum := (o4.hid p List.mem_cons_self).1
                    have o5 : Ok g th3 mum (upd H4 p (.lst (acc ++ [y]))) := by
                      have z := o4.rehide (o := .lst (acc ++ [y])) nown (fun _ z => nomatch z)
                      exact eth3 ▸ z
                    have eg5 : Gz th3 mum (upd H4 p (.lst (acc ++ [y]))) = Gz th3 mum H4 := by
                      have z := Gz_hide (th := ⟨th3.ids, th1.hid⟩) (mu := mum) (H := H4) (p := p) (o := .lst (acc ++ [y])) (by rintro (z | z); exact nown z; exact np (.inr z))
                      exact eth3 ▸ z
                    have lacc : acc.length < 100000 := by
                      have := hacc.length
                      have e2 := congrArg List.length ez
                      rw [List.length_append, List.length_cons] at e2
                      omega
                    refine ⟨acc, k2, Evl.sz_lt lacc, mum, th3, acc ++ [y], dacc ++ [dy], rest2, pf3, o5, by rw [eg5]; exact ex.trans ff.ex, fun a ma => ?_, upd_same, ?_, hr, by rw [List.append_assoc]; exact ez⟩
                    · rw [upd_ne fun z => np (.inr (by rw [← z]; exact ma))]
                      exact k1 a ma
                    · rw [eg5]
                      exact RpL.append (RpL.mono ff.pf ff.ex _ _ hacc) (es := [dy]) (ws := [y]) ⟨y, [], rfl, hy, rfl⟩
  · have ei : i = ds.length := by omega
    refine .inl ⟨wki.2 ei, ?_⟩
    rw [ei, List.drop_length] at el
    have e' := Option.some.inj el
    cases e'
    rw [List.append_nil] at ez
    subst ez
    exact fin p th acc H' hp pf o ex hh hpa hacc
theorem can_lc (hT : TgLc g own G t) (h : canE g W (mLc own it t c m) σ H Q) : tLc (canI g W it) G (canT g (fun _ _ _ _ => False) c) (canE g (fun _ _ _ _ => False) m) own σ H Q :=
  (can_bind (R := RI g) h).imp fun J H1 ⟨ds, rh, mu1, th1, hJ, r1, h1⟩ => by
    obtain ⟨s, muF, e1, q⟩ := h1
    have e1 : (match lcLoop t c m (wipeR rh own) ds mu1 with
      | some (ys, mu') => (few ys).map fun zs => (Rs.ok (D.lst zs), mu')
      | none => none) = some (s, muF) := e1
    cases hl : lcLoop t c m (wipeR rh own) ds mu1 with
    | none => rw [hl] at e1; cases e1
    | some pr =>
      obtain ⟨ys, mu2⟩ := pr
      rw [hl] at e1
      have e9 : (few ys).map (fun zs => (Rs.ok (D.lst zs), mu2)) = some (s, muF) := e1
      clear e1
      cases hf : few ys with
      | none => rw [hf] at e9; cases e9
      | some zs =>
        rw [hf] at e9
        obtain ⟨rfl, hz⟩ := few_eq hf
        have e' : (Rs.ok (D.lst zs), mu2) = (s, muF) := Option.some.inj e9
        cases e'
        refine lc_core' hT hJ.h r1 hl hz fun p th acc H' hp pf o ex hh hpa hacc => ?_
        have nh : p ∉ th1.hid := fun z => r1.ok.new hp (.inr z)
        have eth : th = Th.hide ⟨th.ids, th1.hid⟩ p := by
          obtain ⟨ids, hid⟩ := th
          have : hid = p :: th1.hid := pf.hid
          subst this
          rfl
        have o' : Ok g (Th.hide ⟨th.ids, th1.hid⟩ p) muF H' := eth ▸ o
        obtain ⟨ou, eu, pu⟩ := o'.unhide (th := ⟨th.ids, th1.hid⟩) nh
        have eu' : Ex (Gz th muF H') (Gz ⟨th.ids, th1.hid⟩ muF H') := by
          have q := eu
          rw [← eth] at q
          exact q
        refine q ⟨th.ids, th1.hid⟩ (.ref p) H' ⟨⟨pf.ids, rfl⟩, ou, ex.trans eu', hh⟩ ⟨p, acc, rfl, pu.trans hpa, ?_⟩
        exact RpL.ids (th := th) (th' := ⟨th.ids, th1.hid⟩) rfl _ _ (RpL.mono Pfx.refl eu' _ _ hacc)
/-- a comprehension whose list is changed later -/
def mLcC (own : List Nat) (it : M (List D)) (t : Tg) (c : M Bool) (m : ME) : ME := bindM it fun ds rh mu => match lcLoop t c m (wipeR rh own) ds mu with
  | some (ys, mu') => (few ys).map fun zs => (.ok (.cel mu'.length), mu' ++ [.lst zs])
  | none => none
/-- a hidden list becomes a cell -/
theorem Ok.adopt {th : Th} {mu : Mu} {p : Addr} {xs : List V} {zs : List D} (k : Ok g (th.hide p) mu H) (nh : p ∉ th.hid) (hp : H p = some (.lst xs)) (r : RpL g (th.hide p) (Gz (th.hide p) mu H) zs xs) :
    Ok g (th.add p) (mu ++ [.lst zs]) H ∧ Gz (th.add p) (mu ++ [.lst zs]) H = Gz (th.hide p) mu H := by
  have np : p ∉ Eb.own th.ids mu := (k.hid p List.mem_cons_self).1
  have hlen : th.ids.length = mu.length := k.len
  have ea : Eb.own (th.add p).ids (mu ++ [.lst zs]) = Eb.own th.ids mu ++ [p] := own_app hlen rfl
  have eg : Gz (th.add p) (mu ++ [.lst zs]) H = Gz (th.hide p) mu H := by
    funext a
    unfold Gz
    rw [ea]
    show (if a ∈ Eb.own th.ids mu ++ [p] ∨ a ∈ th.hid then none else H a) = if a ∈ Eb.own th.ids mu ∨ a ∈ p :: th.hid then none else H a
    by_cases m : a ∈ Eb.own th.ids mu ∨ a ∈ p :: th.hid
    · rw [if_pos m, if_pos]
      rcases m with m | m
      · exact .inl (List.mem_append_left _ m)
      · rcases List.mem_cons.mp m with rfl | m
        · exact .inl (by simp)
        · exact .inr m
    · rw [if_neg m, if_neg]
      rintro (z | z)
      · rcases List.mem_append.mp z with z | z
        · exact m (.inl z)
        · exact m (.inr (by rw [List.mem_singleton.mp z]; exact List.mem_cons_self))
      · exact m (.inr (List.mem_cons_of_mem _ z))
  refine ⟨⟨by simp [Th.add, hlen], ?_, fun i a d e1 e2 => ?_, fun a m => ?_⟩, eg⟩
  · rw [ea]
    refine List.nodup_append.mpr ⟨k.nod, by simp, fun x hx y hy => ?_⟩
    rintro rfl
    exact np (by simpa [List.mem_singleton.mp hy] using hx)
  · rw [eg]
    have pm : ∀ {c : Cell}, CellOk g (th.hide p) (Gz (th.hide p) mu H) H a c → CellOk g (th.add p) (Gz (th.hide p) mu H) H a c := fun {c} x => (CellOk.ids (th := th.hide p) (th' := th) rfl x).mono Pfx.add (fun _ _ z => z) rfl
    have e1 : (th.ids ++ [p])[i]? = some a := e1
    by_cases hi : i < th.ids.length
    · rw [List.getElem?_append_left hi] at e1
      rw [List.getElem?_append_left (by rw [← hlen]; exact hi)] at e2
      exact pm (k.cel i a d e1 e2)
    · have h1 : i = th.ids.length := by
        have := (List.getElem?_eq_some_iff.mp e1).1
        simp at this; omega
      subst h1
      have q1 : p = a := by simpa using e1
      have q2 : Cell.lst zs = d := by
        rw [hlen] at e2
        simpa using e2
      subst q1 q2
      exact pm ⟨xs, hp, r⟩
  · rw [ea]
    obtain ⟨n, u⟩ := k.hid a (List.mem_cons_of_mem _ m)
    refine ⟨fun z => ?_, u⟩
    rcases List.mem_append.mp z with z | z
    · exact n z
    · exact nh (by rw [← List.mem_singleton.mp z]; exact m)
theorem can_lcC (hT : TgLc g own G t) (h : canE g W (mLcC own it t c m) σ H Q) : tLc (canI g W it) G (canT g (fun _ _ _ _ => False) c) (canE g (fun _ _ _ _ => False) m) own σ H Q :=
  (can_bind (R := RI g) h).imp fun J H1 ⟨ds, rh, mu1, th1, hJ, r1, h1⟩ => by
    obtain ⟨s, muF, e1, q⟩ := h1
    have e1 : (match lcLoop t c m (wipeR rh own) ds mu1 with
      | some (ys, mu') => (few ys).map fun zs => (Rs.ok (D.cel mu'.length), mu' ++ [.lst zs])
      | none => none) = some (s, muF) := e1
    cases hl : lcLoop t c m (wipeR rh own) ds mu1 with
    | none => rw [hl] at e1; cases e1
    | some pr =>
      obtain ⟨ys, mu2⟩ := pr
      rw [hl] at e1
      have e9 : (few ys).map (fun zs => (Rs.ok (D.cel mu2.length), mu2 ++ [.lst zs])) = some (s, muF) := e1
      clear e1
      cases hf : few ys with
      | none => rw [hf] at e9; cases e9
      | some zs =>
        rw [hf] at e9
        obtain ⟨rfl, hz⟩ := few_eq hf
        have e' : (Rs.ok (D.cel mu2.length), mu2 ++ [.lst zs]) = (s, muF) := Option.some.inj e9
        cases e'
        refine lc_core' hT hJ.h r1 hl hz fun p th acc H' hp pf o ex hh hpa hacc => ?_
        have nh : p ∉ th1.hid := fun z => r1.ok.new hp (.inr z)
        obtain ⟨ids, hid⟩ := th
        have : hid = p :: th1.hid := pf.hid
        subst this
        obtain ⟨o2, eg⟩ := Ok.adopt (th := ⟨ids, th1.hid⟩) o nh hpa hacc
        refine q (Th.add ⟨ids, th1.hid⟩ p) (.ref p) H' ⟨⟨?_, rfl⟩, o2, by rw [eg]; exact ex, hh⟩ ⟨p, rfl, ?_⟩
        · obtain ⟨r, er⟩ := pf.ids
          have er : ids = th1.ids ++ r := er
          exact ⟨r ++ [p], by show ids ++ [p] = _; rw [er, List.append_assoc]⟩
        · have hlen : ids.length = mu2.length := o.len
          show (ids ++ [p])[mu2.length]? = some p
          rw [← hlen]
          simp
end
section
variable {X : Cx} {g : Gam} {W : WX} {elt tg iter : Expr} {ifs : List Expr} {scope : Scope} {own : List (Str × Nat)} {pos spos : Pos} {it : M (List D)} {t : Tg} {c : M Bool} {m : ME} {G : TG}
/-- a comprehension over a list, be it a cell that the block leaves alone -/
def mLcK (own : List Nat) (ma : ME) (t : Tg) (c : M Bool) (m : ME) : ME := bindM ma fun d rh mu => match d with
  | .lst ds => match lcLoop t c m (wipeR rh own) ds mu with
    | some (ys, mu') => (few ys).map fun zs => (.ok (.lst zs), mu')
    | none => none
  | .cel k => match mu[k]? with
    | some (.lst ds) => match lcLoop t c m (wipeR rh own) ds (mu.set k .dead) with
      | some (ys, mu') => if mu'[k]?.isSome = true then (few ys).map fun zs => (.ok (.lst zs), mu'.set k (.lst ds)) else none
      | none => none
    | _ => none
  | _ => none
section
variable {g : Gam} {W : WX} {ma : ME} {t : Tg} {c : M Bool} {m : ME} {G : TG} {own : List Nat} {σ : L2.St} {H : Hp} {Q : VK} {K : PySem.W.Frag}
theorem own_live {a : Addr} {ids : List Addr} {c : Cell} {mu : Mu} (h : c.live = true) : Eb.own (a :: ids) (c :: mu) = a :: Eb.own ids mu := by
  show (if c.live = true then a :: Eb.own ids mu else Eb.own ids mu) = _
  rw [if_pos h]
theorem own_dead {a : Addr} {ids : List Addr} {c : Cell} {mu : Mu} (h : ¬ c.live = true) : Eb.own (a :: ids) (c :: mu) = Eb.own ids mu := by
  show (if c.live = true then a :: Eb.own ids mu else Eb.own ids mu) = _
  rw [if_neg h]
/-- a cell is hidden for a while -/
theorem Ok.lay {th : Th} {mu : Mu} {k : Nat} {a : Addr} {ds : List D} (o : Ok g th mu H) (ha : th.ids[k]? = some a) (hc : mu[k]? = some (.lst ds)) :
    Ok g (th.hide a) (mu.set k .dead) H ∧ Gz (th.hide a) (mu.set k .dead) H = Gz th mu H ∧ a ∉ th.hid := by
  obtain ⟨o2, _, _⟩ := o.freeze ha hc rfl
  have hl : k < mu.length := (List.getElem?_eq_some_iff.mp hc).1
  have ma : a ∈ Eb.own th.ids mu := own_mem.mpr ⟨k, _, ha, hc, rfl⟩
  have nh : a ∉ th.hid := fun m => (o.hid a m).1 ma
  have mem : ∀ b, b ∈ Eb.own th.ids (mu.set k .dead) ↔ b ∈ Eb.own th.ids mu ∧ b ≠ a := fun b => by
    constructor
    · intro h
      obtain ⟨j, d, e1, e2, e3⟩ := own_mem.mp h
      have hj : j ≠ k := by
        rintro rfl
        rw [List.getElem?_set_self hl] at e2
        have := Option.some.inj e2
        subst this
        cases e3
      rw [List.getElem?_set_ne (Ne.symm hj)] at e2
      refine ⟨own_mem.mpr ⟨j, d, e1, e2, e3⟩, ?_⟩
      rintro rfl
      exact hj (own_inj o.nod e1 ha e2 hc e3 rfl)
    · rintro ⟨h, ne⟩
      obtain ⟨j, d, e1, e2, e3⟩ := own_mem.mp h
      have hj : j ≠ k := by
        rintro rfl
        rw [ha] at e1
        exact ne (Option.some.inj e1).symm
      exact own_mem.mpr ⟨j, d, e1, by rw [List.getElem?_set_ne (Ne.symm hj)]; exact e2, e3⟩
  have eg : Gz (th.hide a) (mu.set k .dead) H = Gz th mu H := by
    funext b
    unfold Gz
    show (if b ∈ Eb.own th.ids (mu.set k .dead) ∨ b ∈ a :: th.hid then none else H b) = if b ∈ Eb.own th.ids mu ∨ b ∈ th.hid then none else H b
    by_cases m : b ∈ Eb.own th.ids mu ∨ b ∈ th.hid
    · rw [if_pos m, if_pos]
      rcases m with m | m
      · by_cases hb : b = a
        · exact .inr (by rw [hb]; exact List.mem_cons_self)
        · exact .inl ((mem b).mpr ⟨m, hb⟩)
      · exact .inr (List.mem_cons_of_mem _ m)
    · rw [if_neg m, if_neg]
      rintro (z | z)
      · exact m (.inl ((mem b).mp z).1)
      · rcases List.mem_cons.mp z with rfl | z
        · exact m (.inl ma)
        · exact m (.inr z)
  refine ⟨⟨o2.len, o2.nod, fun i b d e1 e2 => ?_, fun b m => ?_⟩, eg, nh⟩
  · rw [eg]
    by_cases hi : i = k
    · subst hi
      rw [List.getElem?_set_self hl] at e2
      have := Option.some.inj e2
      subst this
      trivial
    · rw [List.getElem?_set_ne (Ne.symm hi)] at e2
      exact CellOk.ids (th := th) (th' := th.hide a) rfl (o.cel i b d e1 e2)
  · rcases List.mem_cons.mp m with rfl | m
    · exact ⟨fun z => ((mem b).mp z).2 rfl, (o.cel k b _ ha hc).solid rfl⟩
    · obtain ⟨n, u⟩ := o.hid b m
      exact ⟨fun z => n ((mem b).mp z).1, u⟩
/-- .. and comes back -/
theorem Ok.rise {th : Th} {mu : Mu} {k : Nat} {a : Addr} {xs : List V} {ds : List D} (o : Ok g (th.hide a) mu H) (ha : th.ids[k]? = some a) (hl : k < mu.length) (hd : ∀ c, mu[k]? = some c → c.live = false) (nh : a ∉ th.hid) (hH : H a = some (.lst xs)) (r : RpL g th (Gz (th.hide a) mu H) ds xs) :
    Ok g th (mu.set k (.lst ds)) H ∧ Gz th (mu.set k (.lst ds)) H = Gz (th.hide a) mu H := by
  have na : a ∉ Eb.own th.ids mu := (o.hid a List.mem_cons_self).1
  have hlen : th.ids.length = mu.length := o.len
  have gen : ∀ (ids : List Addr) (mu : Mu) (k : Nat), ids[k]? = some a → k < mu.length → (∀ c, mu[k]? = some c → c.live = false) → ∃ l1 l2, Eb.own ids mu = l1 ++ l2 ∧ Eb.own ids (mu.set k (.lst ds)) = l1 ++ a :: l2 := by
    intro ids
    induction ids with
    | nil => intro mu k h; simp at h
    | cons b ids ih =>
      intro mu k h hl hd
      cases mu with
      | nil => simp at hl
      | cons c mu =>
        cases k with
        | zero =>
          have : b = a := by simpa using h
          subst this
          have hc : c.live = false := hd c rfl
          exact ⟨[], Eb.own ids mu, own_dead (by rw [hc]; exact Bool.false_ne_true), own_live rfl⟩
        | succ k =>
          obtain ⟨l1, l2, e1, e2⟩ := ih mu k (by simpa using h) (by simpa using hl) (fun c' hc' => hd c' (by simpa using hc'))
          by_cases hc : c.live = true
          · exact ⟨b :: l1, l2, by rw [own_live hc, e1]; rfl, by show Eb.own (b :: ids) (c :: mu.set k (.lst ds)) = _; rw [own_live hc, e2]; rfl⟩
          · exact ⟨l1, l2, by rw [own_dead hc, e1], by show Eb.own (b :: ids) (c :: mu.set k (.lst ds)) = _; rw [own_dead hc, e2]⟩
  obtain ⟨l1, l2, e1, e2⟩ := gen th.ids mu k ha hl hd
  have mem : ∀ b, b ∈ Eb.own th.ids (mu.set k (.lst ds)) ↔ b ∈ Eb.own th.ids mu ∨ b = a := fun b => by
    rw [e1, e2]
    simp only [List.mem_append, List.mem_cons]
    exact ⟨fun h => h.elim (fun h => .inl (.inl h)) fun h => h.elim .inr fun h => .inl (.inr h), fun h => h.elim (fun h => h.elim .inl fun h => .inr (.inr h)) fun h => .inr (.inl h)⟩
  have eg : Gz th (mu.set k (.lst ds)) H = Gz (th.hide a) mu H := by
    funext b
    unfold Gz
    show (if b ∈ Eb.own th.ids (mu.set k (.lst ds)) ∨ b ∈ th.hid then none else H b) = if b ∈ Eb.own th.ids mu ∨ b ∈ a :: th.hid then none else H b
    have q : (b ∈ Eb.own th.ids (mu.set k (.lst ds)) ∨ b ∈ th.hid) ↔ (b ∈ Eb.own th.ids mu ∨ b ∈ a :: th.hid) := by
      rw [mem b, List.mem_cons]
      exact ⟨fun h => h.elim (fun h => h.elim .inl fun h => .inr (.inl h)) fun h => .inr (.inr h), fun h => h.elim (fun h => .inl (.inl h)) fun h => h.elim (fun h => .inl (.inr h)) .inr⟩
    by_cases m : b ∈ Eb.own th.ids mu ∨ b ∈ a :: th.hid
    · rw [if_pos m, if_pos (q.mpr m)]
    · rw [if_neg m, if_neg fun z => m (q.mp z)]
  refine ⟨⟨by simp [hlen], ?_, fun i b d h1 h2 => ?_, fun b m => ?_⟩, eg⟩
  · have nd : (Eb.own th.ids mu).Nodup := o.nod
    rw [e2]
    rw [e1] at nd na
    refine (List.perm_middle.nodup_iff).mpr (List.nodup_cons.mpr ⟨na, nd⟩)
  · rw [eg]
    by_cases hi : i = k
    · subst hi
      rw [ha] at h1
      cases h1
      rw [List.getElem?_set_self hl] at h2
      have := Option.some.inj h2
      subst this
      exact ⟨xs, hH, r⟩
    · rw [List.getElem?_set_ne (Ne.symm hi)] at h2
      exact CellOk.ids (th := th.hide a) (th' := th) rfl (o.cel i b d h1 h2)
  · obtain ⟨n, u⟩ := o.hid b (List.mem_cons_of_mem _ m)
    refine ⟨fun z => ?_, u⟩
    rcases (mem b).mp z with z | rfl
    · exact n z
    · exact nh m
theorem can_lcK (hK : K = g.K) (hT : TgLc g own G t) (h : canE g W (mLcK own ma t c m) σ H Q) : tLc (fun σ H R => (canE g W ma) σ H fun v H1 => ∃ a, v = .ref a ∧ (∃ xs, SqL K H1 a xs) ∧ R (Itl K a) H1) G (canT g (fun _ _ _ _ => False) c) (canE g (fun _ _ _ _ => False) m) own σ H Q :=
  (can_bind (R := RE g) h).imp fun v H1 ⟨d, rh, mu1, th1, hd, r1, h1⟩ => by
    subst hK
    obtain ⟨s, muF, e1, q⟩ := h1
    dsimp only at e1
    split at e1
    · rename_i ds
      obtain ⟨a, xs, rfl, ga, hr⟩ := hd
      refine ⟨a, rfl, ⟨xs, SqL.of (Gz_sub _ _ ga)⟩, ?_⟩
      cases hl : lcLoop t c m (wipeR rh own) ds mu1 with
      | none => rw [hl] at e1; cases e1
      | some pr =>
        obtain ⟨ys, mu2⟩ := pr
        rw [hl] at e1
        have e9 : (few ys).map (fun zs => (Rs.ok (D.lst zs), mu2)) = some (s, muF) := e1
        cases hf : few ys with
        | none => rw [hf] at e9; cases e9
        | some zs =>
          rw [hf] at e9
          obtain ⟨rfl, hz⟩ := few_eq hf
          have e' : (Rs.ok (D.lst zs), mu2) = (s, muF) := Option.some.inj e9
          cases e'
          refine lc_core' hT (walks_l (SqL.of ga) hr).h r1 hl hz fun p th acc H' hp pf o ex hh hpa hacc => ?_
          have nh : p ∉ th1.hid := fun z => r1.ok.new hp (.inr z)
          obtain ⟨ids, hid⟩ := th
          have : hid = p :: th1.hid := pf.hid
          subst this
          obtain ⟨ou, eu, pu⟩ := Ok.unhide (th := ⟨ids, th1.hid⟩) o nh
          refine q ⟨ids, th1.hid⟩ (.ref p) H' ⟨⟨pf.ids, rfl⟩, ou, ex.trans eu, hh⟩ ⟨p, acc, rfl, pu.trans hpa, ?_⟩
          exact RpL.ids (th := ⟨ids, p :: th1.hid⟩) (th' := ⟨ids, th1.hid⟩) rfl _ _ (RpL.mono Pfx.refl eu _ _ hacc)
    · rename_i k
      split at e1
      · rename_i ds hk
        obtain ⟨a, rfl, ha⟩ := hd
        obtain ⟨xs, hx, hr⟩ := r1.ok.cel k a _ ha hk
        refine ⟨a, rfl, ⟨xs, SqL.of hx⟩, ?_⟩
        obtain ⟨oL, eL, na⟩ := r1.ok.lay ha hk
        have rL : Rl g rh (mu1.set k .dead) (th1.hide a) σ H1 := ⟨oL, r1.len, fun i d e => by
          obtain ⟨u, e1, e2⟩ := r1.slt i d e
          exact ⟨u, e1, by rw [eL]; exact Rp.ids (th := th1) (th' := th1.hide a) rfl d u e2⟩⟩
        cases hl : lcLoop t c m (wipeR rh own) ds (mu1.set k .dead) with
        | none => rw [hl] at e1; cases e1
        | some pr =>
          obtain ⟨ys, mu2⟩ := pr
          rw [hl] at e1
          dsimp only at e1
          split at e1
          · rename_i hsm
            have e9 : (few ys).map (fun zs => (Rs.ok (D.lst zs), mu2.set k (.lst ds))) = some (s, muF) := e1
            cases hf : few ys with
            | none => rw [hf] at e9; cases e9
            | some zs =>
              rw [hf] at e9
              obtain ⟨rfl, hz⟩ := few_eq hf
              have e' : (Rs.ok (D.lst zs), mu2.set k (.lst ds)) = (s, muF) := Option.some.inj e9
              cases e'
              have wk : WalksH g (th1.hide a) (Gz (th1.hide a) (mu1.set k .dead) H1) H1 (Itl g.K a) ds := by
                intro th' mu' H' pf o ex hh i
                have hxa : SqL g.K H' a xs := SqL.of ((hh a List.mem_cons_self).trans hx)
                have hrr : RpL g th' (Gz th' mu' H') ds xs := by
                  rw [eL] at ex
                  have z : RpL g ⟨th1.ids, th'.hid⟩ (Gz th1 mu1 H1) ds xs := RpL.ids (th := th1) (th' := ⟨th1.ids, th'.hid⟩) rfl _ _ hr
                  exact RpL.mono (th := ⟨th1.ids, th'.hid⟩) (th' := th') ⟨pf, rfl⟩ ex _ _ z
                refine ⟨fun d e => ?_, fun e => ⟨xs, hxa, by rw [hrr.length, e]; exact Nat.le_refl _⟩⟩
                obtain ⟨w, e1, e2⟩ := hrr.get e
                refine ⟨⟨xs, w, hxa, e1⟩, fun x H'' y => ?_⟩
                obtain ⟨rfl, y⟩ := y
                have e3 := y xs hxa
                rw [e1] at e3
                have : w = x := Option.some.inj e3
                subst this
                exact ⟨fun _ _ z => z, e2⟩
              refine lc_core' (th1 := th1.hide a) hT wk rL hl hz fun p th acc H' hp pf o ex hh hpa hacc => ?_
              have nh : p ∉ a :: th1.hid := fun z => oL.new hp (.inr z)
              obtain ⟨ids, hid⟩ := th
              have : hid = p :: a :: th1.hid := pf.hid
              subst this
              obtain ⟨ou, eu, pu⟩ := Ok.unhide (th := ⟨ids, a :: th1.hid⟩) o nh
              have hacc2 : RpL g ⟨ids, a :: th1.hid⟩ (Gz ⟨ids, a :: th1.hid⟩ mu2 H') zs acc := RpL.ids (th := ⟨ids, p :: a :: th1.hid⟩) (th' := ⟨ids, a :: th1.hid⟩) rfl _ _ (RpL.mono Pfx.refl eu _ _ hacc)
              have pids : ∃ r, ids = th1.ids ++ r := pf.ids
              have hak : ids[k]? = some a := by
                obtain ⟨r, er⟩ := pids
                rw [er, List.getElem?_append_left ((List.getElem?_eq_some_iff.mp ha).1)]
                exact ha
              have hkl : k < mu2.length := by
                cases hq : mu2[k]? with
                | none => rw [hq] at hsm; cases hsm
                | some c0 => exact (List.getElem?_eq_some_iff.mp hq).1
              have hdead : ∀ c0, mu2[k]? = some c0 → c0.live = false := fun c0 hc0 => by
                cases hlv : c0.live with
                | false => rfl
                | true => exact absurd (own_mem.mpr ⟨k, c0, hak, hc0, hlv⟩) (ou.hid a List.mem_cons_self).1
              have hHa : H' a = some (.lst xs) := (hh a List.mem_cons_self).trans hx
              have exx : Ex (Gz th1 mu1 H1) (Gz ⟨ids, a :: th1.hid⟩ mu2 H') := by
                rw [eL] at ex
                exact ex.trans eu
              have hrr : RpL g ⟨ids, th1.hid⟩ (Gz (Th.hide ⟨ids, th1.hid⟩ a) mu2 H') ds xs := RpL.mono (th := th1) (th' := ⟨ids, th1.hid⟩) ⟨pids, rfl⟩ exx _ _ hr
              obtain ⟨oR, eR⟩ := Ok.rise (th := ⟨ids, th1.hid⟩) ou hak hkl hdead na hHa hrr
              refine q ⟨ids, th1.hid⟩ (.ref p) H' ⟨⟨pids, rfl⟩, oR, by rw [eR]; exact exx, fun b hb => hh b (List.mem_cons_of_mem _ hb)⟩ ⟨p, acc, rfl, ?_, ?_⟩
              · rw [eR]
                exact pu.trans hpa
              · rw [eR]
                exact RpL.ids (th := ⟨ids, a :: th1.hid⟩) (th' := ⟨ids, th1.hid⟩) rfl _ _ hacc2
          · cases e1
      · cases e1
    · cases e1
end
/-- no exception leaves a comprehension's block -/
abbrev W0 : WX := fun _ _ _ _ => False
theorem pmts_nil : PTs X [] (canT g W mYes) := ⟨fun pins s σ H Q I h => pts_nil.run pins s σ H Q I (canT_yes h)⟩
theorem pmts_one {c : Expr} {mt : M Bool} (h : PT X c (canT g W mt)) : PTs X [c] (canT g W mt) := pts_one h
theorem pm_lc (hc : X.calm = true) (hN : X.N.Nodup) (hi : PI X tg iter (canI g W it)) (ok : BlkOk X.N X.env.scope scope own) (hT : TgLc g (own.map (·.2)) G t)
    (hg : ∀ (s : Shared) (H : Hp) (C : Addr) (cl : List (Str × Addr)) (fp : List Addr), PG (X.blk s H scope (compEnvC scope cl C X.env) fp) tg G)
    (ht : ∀ (s : Shared) (H : Hp) (C : Addr) (cl : List (Str × Addr)) (fp : List Addr), PTs (X.blk s H scope (compEnvC scope cl C X.env) fp) ifs (canT g W0 c))
    (he : ∀ (s : Shared) (H : Hp) (C : Addr) (cl : List (Str × Addr)) (fp : List Addr), PE (X.blk s H scope (compEnvC scope cl C X.env) fp) elt (canE g W0 m))
    (hs : ∀ x, foldedSetIterable iter X.env x = pure x := by intro _; rfl) : PE X (.ListComp elt [⟨tg, iter, ifs, 0⟩] scope pos) (canE g W (mLc (own.map (·.2)) it t c m)) :=
  PEimp (pe_lc hc hN hi ok hg ht he hs) fun _ _ _ => can_lc hT
theorem pm_lcC (hc : X.calm = true) (hN : X.N.Nodup) (hi : PI X tg iter (canI g W it)) (ok : BlkOk X.N X.env.scope scope own) (hT : TgLc g (own.map (·.2)) G t)
    (hg : ∀ (s : Shared) (H : Hp) (C : Addr) (cl : List (Str × Addr)) (fp : List Addr), PG (X.blk s H scope (compEnvC scope cl C X.env) fp) tg G)
    (ht : ∀ (s : Shared) (H : Hp) (C : Addr) (cl : List (Str × Addr)) (fp : List Addr), PTs (X.blk s H scope (compEnvC scope cl C X.env) fp) ifs (canT g W0 c))
    (he : ∀ (s : Shared) (H : Hp) (C : Addr) (cl : List (Str × Addr)) (fp : List Addr), PE (X.blk s H scope (compEnvC scope cl C X.env) fp) elt (canE g W0 m))
    (hs : ∀ x, foldedSetIterable iter X.env x = pure x := by intro _; rfl) : PE X (.ListComp elt [⟨tg, iter, ifs, 0⟩] scope pos) (canE g W (mLcC (own.map (·.2)) it t c m)) :=
  PEimp (pe_lc hc hN hi ok hg ht he hs) fun _ _ _ => can_lcC hT
theorem pm_lcK {ma : ME} (hc : X.calm = true) (hK : X.K = g.K) (hN : X.N.Nodup) (hi : PE X iter (canE g W ma)) (ok : BlkOk X.N X.env.scope scope own) (hT : TgLc g (own.map (·.2)) G t)
    (hg : ∀ (s : Shared) (H : Hp) (C : Addr) (cl : List (Str × Addr)) (fp : List Addr), PG (X.blk s H scope (compEnvC scope cl C X.env) fp) tg G)
    (ht : ∀ (s : Shared) (H : Hp) (C : Addr) (cl : List (Str × Addr)) (fp : List Addr), PTs (X.blk s H scope (compEnvC scope cl C X.env) fp) ifs (canT g W0 c))
    (he : ∀ (s : Shared) (H : Hp) (C : Addr) (cl : List (Str × Addr)) (fp : List Addr), PE (X.blk s H scope (compEnvC scope cl C X.env) fp) elt (canE g W0 m))
    (hs : ∀ x, foldedSetIterable iter X.env x = pure x := by intro _; rfl) : PE X (.ListComp elt [⟨tg, iter, ifs, 0⟩] scope pos) (canE g W (mLcK (own.map (·.2)) ma t c m)) :=
  PEimp (pe_lc hc hN (pi_list hi) ok hg ht he hs) fun _ _ _ => can_lcK hK hT
theorem pm_setLc {i : Nat} {y : Str} {py : Pos} (hc : X.calm = true) (hN : X.N.Nodup) (hy : X.N[i]? = some y) (hyl : X.env.scope.names.lookup y = some .local)
    (hsw : swapsWith (.ListComp elt [⟨tg, iter, ifs, 0⟩] scope pos) (some (.Name y py)) spos.line X.env = pure true) (hi : PI X tg iter (canI g W it)) (ok : BlkOk X.N X.env.scope scope own) (hT : TgLc g (own.map (·.2)) G t)
    (hg : ∀ (s : Shared) (H : Hp) (C : Addr) (cl : List (Str × Addr)) (fp : List Addr), PG (X.blk s H scope (compEnvC scope cl C X.env) fp) tg G)
    (ht : ∀ (s : Shared) (H : Hp) (C : Addr) (cl : List (Str × Addr)) (fp : List Addr), PTs (X.blk s H scope (compEnvC scope cl C X.env) fp) ifs (canT g W0 c))
    (he : ∀ (s : Shared) (H : Hp) (C : Addr) (cl : List (Str × Addr)) (fp : List Addr), PE (X.blk s H scope (compEnvC scope cl C X.env) fp) elt (canE g W0 m))
    (hs : ∀ x, foldedSetIterable iter X.env x = pure x := by intro _; rfl) : PS X (.Assign [.Name y py] (.ListComp elt [⟨tg, iter, ifs, 0⟩] scope pos) spos) (canS g W (sAsg (mLc (own.map (·.2)) it t c m) (tNm i))) :=
  PSimp (ps_setLc hc hN hy hyl hsw hi ok hg ht he hs) fun Dn σ H h => (can_lc hT ((canS_bind (R := RE g) h).imp fun v H1 z => (show gName i v σ H1 Dn.nx from by
    obtain ⟨d, rh, mu1, th1, hd, r1, o, mu', e1, q⟩ := z
    have e' : (Out.nx (rh.set i (some d)), mu1) = (o, mu') := Option.some.inj e1
    cases e'
    exact q th1 _ H1 (Fw.refl r1.ok) (r1.set i hd))))
theorem pm_setLcC {i : Nat} {y : Str} {py : Pos} (hc : X.calm = true) (hN : X.N.Nodup) (hy : X.N[i]? = some y) (hyl : X.env.scope.names.lookup y = some .local)
    (hsw : swapsWith (.ListComp elt [⟨tg, iter, ifs, 0⟩] scope pos) (some (.Name y py)) spos.line X.env = pure true) (hi : PI X tg iter (canI g W it)) (ok : BlkOk X.N X.env.scope scope own) (hT : TgLc g (own.map (·.2)) G t)
    (hg : ∀ (s : Shared) (H : Hp) (C : Addr) (cl : List (Str × Addr)) (fp : List Addr), PG (X.blk s H scope (compEnvC scope cl C X.env) fp) tg G)
    (ht : ∀ (s : Shared) (H : Hp) (C : Addr) (cl : List (Str × Addr)) (fp : List Addr), PTs (X.blk s H scope (compEnvC scope cl C X.env) fp) ifs (canT g W0 c))
    (he : ∀ (s : Shared) (H : Hp) (C : Addr) (cl : List (Str × Addr)) (fp : List Addr), PE (X.blk s H scope (compEnvC scope cl C X.env) fp) elt (canE g W0 m))
    (hs : ∀ x, foldedSetIterable iter X.env x = pure x := by intro _; rfl) : PS X (.Assign [.Name y py] (.ListComp elt [⟨tg, iter, ifs, 0⟩] scope pos) spos) (canS g W (sAsg (mLcC (own.map (·.2)) it t c m) (tNm i))) :=
  PSimp (ps_setLc hc hN hy hyl hsw hi ok hg ht he hs) fun Dn σ H h => (can_lcC hT ((canS_bind (R := RE g) h).imp fun v H1 z => (show gName i v σ H1 Dn.nx from by
    obtain ⟨d, rh, mu1, th1, hd, r1, o, mu', e1, q⟩ := z
    have e' : (Out.nx (rh.set i (some d)), mu1) = (o, mu') := Option.some.inj e1
    cases e'
    exact q th1 _ H1 (Fw.refl r1.ok) (r1.set i hd))))
end
end Eb

/-! Eb: operators on data. -/
namespace Eb
open PySem L2
open Evl (Ex ex_l ex_t)
def lstOf (mu : Mu) : D → Option (List D)
  | .lst ds => some ds
  | .cel k => match mu[k]? with
    | some (.lst ds) => some ds
    | _ => none
  | _ => none
section
variable {X : Cx} {g : Gam} {th : Th} {mu : Mu} {H : Hp} {d : D} {v : V} {ds : List D}
theorem lst_at (o : Ok g th mu H) (h : Rp g th (Gz th mu H) d v) (e : lstOf mu d = some ds) : ∃ a xs, v = .ref a ∧ H a = some (.lst xs) ∧ RpL g th (Gz th mu H) ds xs := by
  unfold lstOf at e
  split at e
  · have e' := Option.some.inj e
    subst e'
    obtain ⟨a, xs, e1, e2, e3⟩ := h
    exact ⟨a, xs, e1, Gz_sub _ _ e2, e3⟩
  · split at e
    · rename_i hk
      have e' := Option.some.inj e
      subst e'
      obtain ⟨a, e1, e2⟩ := h
      obtain ⟨xs, q1, q2⟩ := o.cel _ a _ e2 hk
      exact ⟨a, xs, e1, q1, q2⟩
    · cases e
  · cases e
theorem rp_int {i : Int} : Rp g th (Gz th mu H) (.int i) (.int i) := rfl
theorem rp_bl {b : Bool} : Rp g th (Gz th mu H) (.bl b) (.bl b) := rfl
theorem rp_str {x : Str} : Rp g th (Gz th mu H) (.str x) (.str x) := rfl
def lim (n : Nat) (d : D) : Option D := if n ≤ 100000 then some d else none
theorem lim_eq {n : Nat} {d e : D} (h : lim n d = some e) : e = d ∧ n ≤ 100000 := by
  unfold lim at h
  split at h
  · exact ⟨(Option.some.inj h).symm, by assumption⟩
  · cases h
def addD (mu : Mu) : D → D → Option D
  | .int i, .int j => some (.int (i + j))
  | .str a, .str b => lim (a.length + b.length) (.str (a ++ b))
  | .tup a, .tup b => lim (a.length + b.length) (.tup (a ++ b))
  | x, y => match lstOf mu x, lstOf mu y with
    | some a, some b => lim (a.length + b.length) (.lst (a ++ b))
    | _, _ => none
theorem om_add (hK : X.K = g.K) : OpM X g (binaryOp .Add) addD := by
  refine .mk' (op_add.or (op_add_str.or (op_catA.or op_cat))) fun th mu H x y v u d o hx hy e Q q => ?_
  unfold addD at e
  split at e
  · have e' := Option.some.inj e
    subst e'
    exact .inl ⟨_, _, hx, hy, q _ H (fun _ _ z => z) rfl⟩
  · rename_i a b
    obtain ⟨rfl, hl⟩ := lim_eq e
    exact .inr (.inl ⟨_, _, hx, hy, Evl.sz_of hl, q _ H (fun _ _ z => z) rfl⟩)
  · rename_i a b
    obtain ⟨rfl, hl⟩ := lim_eq e
    obtain ⟨a1, xs, rfl, s1, r1, t1⟩ := sqT_of hx
    obtain ⟨a2, ys, rfl, s2, r2, t2⟩ := sqT_of hy
    refine .inr (.inr (.inl ⟨a1, a2, xs, ys, rfl, rfl, by rw [hK]; exact s1, by rw [hK]; exact s2, Evl.sz_of (by rw [r1.length, r2.length]; exact hl), fun h0 => ?_, fun h0 h1 => ?_, fun h0 h1 p hp => ?_⟩))
    · subst h0
      have : a = [] := List.eq_nil_of_length_eq_zero (by have := r1.length; simpa using this.symm)
      subst this
      exact q _ H (fun _ _ z => z) hy
    · subst h1
      have : b = [] := List.eq_nil_of_length_eq_zero (by have := r2.length; simpa using this.symm)
      subst this
      rw [List.append_nil] at q
      exact q _ H (fun _ _ z => z) hx
    · exact q _ _ (Evl.Ex.new hp) (rp_newTup o hp (RpL.append r1 r2))
  · split at e
    · rename_i a b ha hb
      obtain ⟨rfl, hl⟩ := lim_eq e
      obtain ⟨a1, xs, rfl, s1, r1⟩ := lst_at o hx ha
      obtain ⟨a2, ys, rfl, s2, r2⟩ := lst_at o hy hb
      exact .inr (.inr (.inr ⟨a1, a2, xs, ys, rfl, rfl, s1, s2, Evl.sz_of (by rw [r1.length, r2.length]; exact hl), fun p hp => q _ _ (Evl.Ex.new hp) (rp_newLst o hp (RpL.append r1 r2))⟩))
    · cases e
def subD (_ : Mu) : D → D → Option D
  | .int i, .int j => some (.int (i - j))
  | _, _ => none
theorem om_sub : OpM X g (binaryOp .Sub) subD := by
  refine .mk' op_sub fun th mu H x y v u d o hx hy e Q q => ?_
  unfold subD at e
  split at e
  · have e' := Option.some.inj e
    subst e'
    exact ⟨_, _, hx, hy, q _ H (fun _ _ z => z) rfl⟩
  · cases e
/-- a product of ints, one of them small; a list so many times; a tuple so many times, two at least -/
def smallI (i : Int) : Bool := decide (-1000000000 ≤ i ∧ i ≤ 1000000000)
def mulD (mu : Mu) : D → D → Option D
  | .int i, .int j => if smallI i || smallI j then some (.int (i * j)) else none
  | .tup a, .int k => if a.length ≤ 1000 ∧ 2 ≤ k ∧ k ≤ 1000 ∧ a.length ≠ 0 then some (.tup (List.replicate k.toNat a).flatten) else none
  | x, .int k => match lstOf mu x with
    | some a => if a.length ≤ 100 ∧ 0 ≤ k ∧ k ≤ 1000 then some (.lst (List.replicate k.toNat a).flatten) else none
    | none => none
  | _, _ => none
theorem RpL.rep {G : Hp} {ds : List D} {xs : List V} (h : RpL g th G ds xs) : ∀ n : Nat, RpL g th G (List.replicate n ds).flatten (List.replicate n xs).flatten
  | 0 => rfl
  | n + 1 => by
    rw [List.replicate_succ, List.replicate_succ, List.flatten_cons, List.flatten_cons]
    exact h.append (RpL.rep h n)
theorem om_mul (hK : X.K = g.K) : OpM X g (binaryOp .Mult) mulD := by
  refine .mk' (op_mul.or (op_repT.or op_rep)) fun th mu H x y v u d o hx hy e Q q => ?_
  unfold mulD at e
  split at e
  · rename_i i j
    split at e
    · rename_i hs
      have e' := Option.some.inj e
      subst e'
      refine .inl ⟨_, _, hx, hy, ?_, q _ H (fun _ _ z => z) rfl⟩
      rw [Bool.or_eq_true] at hs
      unfold smallI at hs
      rcases hs with hs | hs
      · have := of_decide_eq_true hs; exact .inl (by omega)
      · have := of_decide_eq_true hs; exact .inr (by omega)
    · cases e
  · rename_i a k
    split at e
    · rename_i hs
      have e' := Option.some.inj e
      subst e'
      obtain ⟨a1, xs, rfl, s1, r1, t1⟩ := sqT_of hx
      have hl := r1.length
      refine .inr (.inl ⟨a1, k, xs, rfl, hy, by rw [hK]; exact s1, fun z => hs.2.2.2 (by rw [z] at hl; simpa using hl.symm), hs.2.1, hs.2.2.1, by omega, fun p hp => ?_⟩)
      exact q _ _ (Evl.Ex.new hp) (rp_newTup o hp (RpL.rep r1 _))
    · cases e
  · rename_i k _ _
    split at e
    · rename_i a ha
      split at e
      · rename_i hs
        have e' := Option.some.inj e
        subst e'
        obtain ⟨a1, xs, rfl, s1, r1⟩ := lst_at o hx ha
        have hl := r1.length
        refine .inr (.inr ⟨a1, k, xs, rfl, hy, s1, by omega, by omega, Evl.sz_of ?_, fun p hp => q _ _ (Evl.Ex.new hp) (rp_newLst o hp (RpL.rep r1 _))⟩)
        have h1 : xs.length ≤ 100 := by omega
        have h2 : k.toNat ≤ 1000 := by omega
        exact Nat.le_trans (Nat.mul_le_mul h1 h2) (by decide)
      · cases e
    · cases e
  · cases e
def modD (_ : Mu) : D → D → Option D
  | .int i, .int j => if 0 < j then some (.int (i % j)) else none
  | _, _ => none
theorem om_mod : OpM X g (binaryOp .Mod) modD := by
  refine .mk' op_mod fun th mu H x y v u d o hx hy e Q q => ?_
  unfold modD at e
  split at e
  · split at e
    · rename_i hj
      have e' := Option.some.inj e
      subst e'
      exact ⟨_, _, hx, hy, hj, q _ H (fun _ _ z => z) rfl⟩
    · cases e
  · cases e
def fdivD (_ : Mu) : D → D → Option D
  | .int i, .int j => if 0 < j ∧ j < 1000000000 then some (.int (i / j)) else none
  | _, _ => none
theorem om_fdiv : OpM X g (binaryOp .FloorDiv) fdivD := by
  refine .mk' op_fdiv fun th mu H x y v u d o hx hy e Q q => ?_
  unfold fdivD at e
  split at e
  · split at e
    · rename_i hj
      have e' := Option.some.inj e
      subst e'
      exact ⟨_, _, hx, hy, ⟨hj.1, by omega⟩, q _ H (fun _ _ z => z) rfl⟩
    · cases e
  · cases e
def powD (_ : Mu) : D → D → Option D
  | .int i, .int j => if 0 ≤ j ∧ j ≤ 1000000 ∧ i.natAbs < 2 ^ 64 then some (.int (i ^ j.toNat)) else none
  | _, _ => none
theorem om_pow : OpM X g (binaryOp .Pow) powD := by
  refine .mk' op_pow fun th mu H x y v u d o hx hy e Q q => ?_
  unfold powD at e
  split at e
  · split at e
    · rename_i hj
      have e' := Option.some.inj e
      subst e'
      exact ⟨_, _, hx, hy, hj, q _ H (fun _ _ z => z) rfl⟩
    · cases e
  · cases e
/-! order of ints -/
def cmpI (p : Int → Int → Bool) (_ : Mu) : D → D → Option D
  | .int i, .int j => some (.bl (p i j))
  | _, _ => none
theorem om_cmpI {op : CmpOp} {p : Int → Int → Bool} (h : OpR X (compareOp op) (rI0 fun i j => .bl (p i j))) : OpM X g (compareOp op) (cmpI p) := by
  refine .mk' h fun th mu H x y v u d o hx hy e Q q => ?_
  unfold cmpI at e
  split at e
  · have e' := Option.some.inj e
    subst e'
    exact ⟨_, _, hx, hy, q _ H (fun _ _ z => z) rfl⟩
  · cases e
abbrev ltD : Mu → D → D → Option D := cmpI fun i j => decide (i < j)
abbrev leD : Mu → D → D → Option D := cmpI fun i j => decide (i ≤ j)
abbrev gtD : Mu → D → D → Option D := cmpI fun i j => decide (j < i)
abbrev geD : Mu → D → D → Option D := cmpI fun i j => decide (j ≤ i)
theorem om_lt : OpM X g (compareOp .Lt) ltD := om_cmpI op_lt
theorem om_le : OpM X g (compareOp .LtE) leD := om_cmpI op_le
theorem om_gt : OpM X g (compareOp .Gt) gtD := om_cmpI op_gt
theorem om_ge : OpM X g (compareOp .GtE) geD := om_cmpI op_ge
/-! == and != of data -/
def allM (f : D → Option PyData) : List D → Option (List PyData)
  | [] => some []
  | d :: ds => match f d with
    | some p => (allM f ds).map (p :: ·)
    | none => none
def pyD (mu : Mu) : Nat → D → Option PyData
  | 0, _ => none
  | _ + 1, .non => some .none
  | _ + 1, .bl b => some (.bool b)
  | _ + 1, .int i => some (.int i)
  | _ + 1, .str x => some (.str x)
  | n + 1, .tup ds => (allM (pyD mu n) ds).map .tuple
  | n + 1, .lst ds => (allM (pyD mu n) ds).map .list
  | n + 1, .cel k => match mu[k]? with
    | some (.lst ds) => (allM (pyD mu n) ds).map .list
    | _ => none
  | _ + 1, _ => none
theorem allM_dp {K : PySem.W.Frag} {f : D → Option PyData} {G : Hp} (hf : ∀ d v p, Rp g th G d v → f d = some p → Dp K H v p) : ∀ (ds : List D) (vs : List V) (ps : List PyData), RpL g th G ds vs → allM f ds = some ps → DpAll K H vs ps
  | [], vs, ps, h, e => by
    rw [show vs = [] from h]
    have e' := Option.some.inj e
    subst e'
    exact .nil
  | d :: ds, vs, ps, h, e => by
    obtain ⟨v, r, rfl, h1, h2⟩ := h
    unfold allM at e
    cases hd : f d with
    | none => rw [hd] at e; cases e
    | some p =>
      rw [hd] at e
      cases hr : allM f ds with
      | none => rw [hr] at e; cases e
      | some qs =>
        rw [hr] at e
        have e' := Option.some.inj e
        subst e'
        exact .cons (hf d v p h1 hd) (allM_dp hf ds r qs h2 hr)
theorem pyD_dp (o : Ok g th mu H) : ∀ (n : Nat) (d : D) (v : V) (p : PyData), Rp g th (Gz th mu H) d v → pyD mu n d = some p → Dp g.K H v p
  | 0, d, v, p, _, e => by cases e
  | n + 1, d, v, p, h, e => by
    cases d with
    | non => cases (Option.some.inj e); rw [show v = .non from h]; exact .non
    | bl b => cases (Option.some.inj e); rw [show v = .bl b from h]; exact .bl b
    | int i => cases (Option.some.inj e); rw [show v = .int i from h]; exact .int i
    | str x => cases (Option.some.inj e); rw [show v = .str x from h]; exact .str x
    | tup ds =>
      have e : (allM (pyD mu n) ds).map .tuple = some p := e
      cases ha : allM (pyD mu n) ds with
      | none => rw [ha] at e; cases e
      | some ps =>
        rw [ha] at e
        cases (Option.some.inj e)
        obtain ⟨a, xs, rfl, s1, r1, _⟩ := sqT_of h
        exact .tup s1 (allM_dp (pyD_dp o n) ds xs ps r1 ha)
    | lst ds =>
      have e : (allM (pyD mu n) ds).map .list = some p := e
      cases ha : allM (pyD mu n) ds with
      | none => rw [ha] at e; cases e
      | some ps =>
        rw [ha] at e
        cases (Option.some.inj e)
        obtain ⟨a, xs, rfl, s1, r1⟩ := lst_at (d := .lst ds) o h rfl
        exact .lst (SqL.of s1) (allM_dp (pyD_dp o n) ds xs ps r1 ha)
    | cel k =>
      unfold pyD at e
      split at e
      · rename_i ds hk
        cases ha : allM (pyD mu n) ds with
        | none => rw [ha] at e; cases e
        | some ps =>
          rw [ha] at e
          cases (Option.some.inj e)
          obtain ⟨a, xs, rfl, s1, r1⟩ := lst_at (d := .cel k) (ds := ds) o h (by show (match mu[k]? with | some (.lst ds) => some ds | _ => none) = some ds; rw [hk])
          exact .lst (SqL.of s1) (allM_dp (pyD_dp o n) ds xs ps r1 ha)
      · cases e
    | _ => cases e
/-- both sides as data, compared -/
def eqB (mu : Mu) (x y : D) : Option Bool := match pyD mu 12 x, pyD mu 12 y with
  | some p, some q => if SeqAt.shaped p && SeqAt.shaped q then some (PyData.eqv p q) else none
  | _, _ => none
def eqD (mu : Mu) (x y : D) : Option D := (eqB mu x y).map .bl
def neD (mu : Mu) (x y : D) : Option D := (eqB mu x y).map fun b => .bl (!b)
theorem eqB_dp {x y : D} {v u : V} {b : Bool} (o : Ok g th mu H) (hx : Rp g th (Gz th mu H) x v) (hy : Rp g th (Gz th mu H) y u) (e : eqB mu x y = some b) : ∃ p q, Dp g.K H v p ∧ Dp g.K H u q ∧ SeqAt.shaped p = true ∧ SeqAt.shaped q = true ∧ PyData.eqv p q = b := by
  unfold eqB at e
  split at e
  · rename_i p q hp hq
    split at e
    · rename_i hs
      rw [Bool.and_eq_true] at hs
      exact ⟨p, q, pyD_dp o 12 x v p hx hp, pyD_dp o 12 y u q hy hq, hs.1, hs.2, Option.some.inj e⟩
    · cases e
  · cases e
theorem om_eq (hK : X.K = g.K) (hu : X.A.units + 64 < cLine) : OpM X g (compareOp .Eq) eqD := by
  refine .mk' (op_eqD hu) fun th mu H x y v u d o hx hy e Q q => ?_
  unfold eqD at e
  cases hb : eqB mu x y with
  | none => rw [hb] at e; cases e
  | some b =>
    rw [hb] at e
    cases (Option.some.inj e)
    obtain ⟨p, r, h1, h2, h3, h4, h5⟩ := eqB_dp o hx hy hb
    exact ⟨p, r, by rw [hK]; exact h1, by rw [hK]; exact h2, h3, h4, by rw [h5]; exact q _ H (fun _ _ z => z) rfl⟩
theorem om_ne (hK : X.K = g.K) (hu : X.A.units + 64 < cLine) : OpM X g (compareOp .NotEq) neD := by
  refine .mk' (op_neD hu) fun th mu H x y v u d o hx hy e Q q => ?_
  unfold neD at e
  cases hb : eqB mu x y with
  | none => rw [hb] at e; cases e
  | some b =>
    rw [hb] at e
    cases (Option.some.inj e)
    obtain ⟨p, r, h1, h2, h3, h4, h5⟩ := eqB_dp o hx hy hb
    exact ⟨p, r, by rw [hK]; exact h1, by rw [hK]; exact h2, h3, h4, by rw [h5]; exact q _ H (fun _ _ z => z) rfl⟩
/-! is None, is True -/
def nonB : D → Bool
  | .non => true
  | _ => false
theorem rp_non {G : Hp} {d : D} {v : V} (h : Rp g th G d v) : decide (v = .non) = nonB d := by
  cases d with
  | non => rw [show v = .non from h]; rfl
  | bl b => rw [show v = .bl b from h]; rfl
  | int b => rw [show v = .int b from h]; rfl
  | str b => rw [show v = .str b from h]; rfl
  | tup ds => obtain ⟨a, xs, e, _⟩ := h; rw [e]; rfl
  | lst ds => obtain ⟨a, xs, e, _⟩ := h; rw [e]; rfl
  | ins c ds => obtain ⟨a, dx, ys, xs, e, _⟩ := h; rw [e]; rfl
  | set ns => obtain ⟨a, S, e, _⟩ := h; rw [e]; rfl
  | cel k => obtain ⟨a, e, _⟩ := h; rw [e]; rfl
  | scr ns => obtain ⟨a, e, _⟩ := h; rw [e]; rfl
  | ty n => rw [show v = .ty n from h]; rfl
  | cls c => rw [show v = .ref (g.cls c) from h]; rfl
  | dic ks ds => obtain ⟨a, o, xs, e, _⟩ := h; rw [e]; rfl
  | exn c fs => obtain ⟨a, dd, _, e, _⟩ := h; rw [e]; rfl
def isD (_ : Mu) : D → D → Option D
  | .bl a, .bl b => some (.bl (decide (a = b)))
  | x, .non => some (.bl (nonB x))
  | _, _ => none
def isnotD (_ : Mu) : D → D → Option D
  | .bl a, .bl b => some (.bl (!decide (a = b)))
  | x, .non => some (.bl (!nonB x))
  | _, _ => none
theorem om_is : OpM X g (compareOp .Is) isD := by
  refine .mk' (op_isN.or op_isBl) fun th mu H x y v u d o hx hy e Q q => ?_
  unfold isD at e
  split at e
  · cases (Option.some.inj e)
    exact .inr ⟨_, _, hx, hy, q _ H (fun _ _ z => z) rfl⟩
  · cases (Option.some.inj e)
    exact .inl ⟨hy, by rw [rp_non hx]; exact q _ H (fun _ _ z => z) rfl⟩
  · cases e
theorem om_isnot : OpM X g (compareOp .IsNot) isnotD := by
  refine .mk' (op_notN.or op_notBl) fun th mu H x y v u d o hx hy e Q q => ?_
  unfold isnotD at e
  split at e
  · cases (Option.some.inj e)
    exact .inr ⟨_, _, hx, hy, q _ H (fun _ _ z => z) rfl⟩
  · cases (Option.some.inj e)
    exact .inl ⟨hy, by rw [rp_non hx]; exact q _ H (fun _ _ z => z) rfl⟩
  · cases e
/-! in, not in: a list or tuple of flat things -/
def vOf : D → Option V
  | .non => some .non
  | .bl b => some (.bl b)
  | .int i => some (.int i)
  | .str x => some (.str x)
  | _ => none
def vsOf : List D → Option (List V)
  | [] => some []
  | d :: ds => match vOf d with
    | some v => (vsOf ds).map (v :: ·)
    | none => none
theorem vOf_eq {G : Hp} {d : D} {v w : V} (h : Rp g th G d v) (e : vOf d = some w) : v = w ∧ flatV w = true := by
  cases d with
  | non => cases (Option.some.inj e); exact ⟨h, rfl⟩
  | bl b => cases (Option.some.inj e); exact ⟨h, rfl⟩
  | int b => cases (Option.some.inj e); exact ⟨h, rfl⟩
  | str b => cases (Option.some.inj e); exact ⟨h, rfl⟩
  | _ => cases e
theorem vsOf_eq {G : Hp} : ∀ {ds : List D} {vs ws : List V}, RpL g th G ds vs → vsOf ds = some ws → vs = ws ∧ ws.all flatV = true
  | [], vs, ws, h, e => by
    cases (Option.some.inj e)
    exact ⟨h, rfl⟩
  | d :: ds, vs, ws, h, e => by
    obtain ⟨v, r, rfl, h1, h2⟩ := h
    unfold vsOf at e
    cases hd : vOf d with
    | none => rw [hd] at e; cases e
    | some w =>
      rw [hd] at e
      cases hr : vsOf ds with
      | none => rw [hr] at e; cases e
      | some us =>
        rw [hr] at e
        cases (Option.some.inj e)
        obtain ⟨rfl, f1⟩ := vOf_eq h1 hd
        obtain ⟨rfl, f2⟩ := vsOf_eq h2 hr
        exact ⟨rfl, by rw [List.all_cons, f1, f2]; rfl⟩
def inB (mu : Mu) (x y : D) : Option Bool := match vOf x, (match y with | .tup ds => some ds | y => lstOf mu y) with
  | some v, some ds => (vsOf ds).map fun vs => inV v vs
  | _, _ => none
def inD (mu : Mu) (x y : D) : Option D := (inB mu x y).map .bl
def notinD (mu : Mu) (x y : D) : Option D := (inB mu x y).map fun b => .bl (!b)
theorem inB_at {x y : D} {v u : V} {b : Bool} (o : Ok g th mu H) (hx : Rp g th (Gz th mu H) x v) (hy : Rp g th (Gz th mu H) y u) (e : inB mu x y = some b) : ∃ p xs, u = .ref p ∧ (SqL g.K H p xs ∨ SqT g.K H p xs) ∧ flatV v = true ∧ xs.all flatV = true ∧ inV v xs = b := by
  unfold inB at e
  split at e
  · rename_i w ds hw hds
    cases hv : vsOf ds with
    | none => rw [hv] at e; cases e
    | some vs =>
      rw [hv] at e
      have e' : inV w vs = b := Option.some.inj e
      obtain ⟨rfl, f1⟩ := vOf_eq hx hw
      split at hds
      · cases (Option.some.inj hds)
        obtain ⟨a, xs, rfl, s1, r1, _⟩ := sqT_of hy
        obtain ⟨rfl, f2⟩ := vsOf_eq r1 hv
        exact ⟨a, xs, rfl, .inr s1, f1, f2, e'⟩
      · obtain ⟨a, xs, rfl, s1, r1⟩ := lst_at o hy hds
        obtain ⟨rfl, f2⟩ := vsOf_eq r1 hv
        exact ⟨a, xs, rfl, .inl (SqL.of s1), f1, f2, e'⟩
  · cases e
theorem om_in (hK : X.K = g.K) : OpM X g (compareOp .In) inD := by
  refine .mk' op_in_seq fun th mu H x y v u d o hx hy e Q q => ?_
  unfold inD at e
  cases hb : inB mu x y with
  | none => rw [hb] at e; cases e
  | some b =>
    rw [hb] at e
    cases (Option.some.inj e)
    obtain ⟨p, xs, rfl, s1, f1, f2, f3⟩ := inB_at o hx hy hb
    exact ⟨p, xs, rfl, by rw [hK]; exact s1, f1, f2, by rw [f3]; exact q _ H (fun _ _ z => z) rfl⟩
theorem om_notin (hK : X.K = g.K) : OpM X g (compareOp .NotIn) notinD := by
  refine .mk' op_notIn_seq fun th mu H x y v u d o hx hy e Q q => ?_
  unfold notinD at e
  cases hb : inB mu x y with
  | none => rw [hb] at e; cases e
  | some b =>
    rw [hb] at e
    cases (Option.some.inj e)
    obtain ⟨p, xs, rfl, s1, f1, f2, f3⟩ := inB_at o hx hy hb
    exact ⟨p, xs, rfl, by rw [hK]; exact s1, f1, f2, by rw [f3]; exact q _ H (fun _ _ z => z) rfl⟩
/-- one sign in a text -/
def inS (_ : Mu) : D → D → Option D
  | .str x, .str z => match x.cps.toList with
    | [c] => some (.bl (decide (c ∈ z.cps.toList)))
    | _ => none
  | _, _ => none
def notinS (_ : Mu) : D → D → Option D
  | .str x, .str z => match x.cps.toList with
    | [c] => some (.bl (!decide (c ∈ z.cps.toList)))
    | _ => none
  | _, _ => none
theorem one_sign {x : Str} {c : Nat} (h : x.cps.toList = [c]) : x = ⟨#[c]⟩ := by
  obtain ⟨a⟩ := x
  have : a = #[c] := by
    apply Array.toList_inj.mp
    simpa using h
  rw [this]
theorem om_inS : OpM X g (compareOp .In) inS := by
  refine .mk' op_in_sign fun th mu H x y v u d o hx hy e Q q => ?_
  unfold inS at e
  split at e
  · split at e
    · rename_i c hc
      cases (Option.some.inj e)
      rw [one_sign hc] at hx
      exact ⟨_, _, hx, hy, q _ H (fun _ _ z => z) rfl⟩
    · cases e
  · cases e
theorem om_notinS : OpM X g (compareOp .NotIn) notinS := by
  refine .mk' op_notIn_sign fun th mu H x y v u d o hx hy e Q q => ?_
  unfold notinS at e
  split at e
  · split at e
    · rename_i c hc
      cases (Option.some.inj e)
      rw [one_sign hc] at hx
      exact ⟨_, _, hx, hy, q _ H (fun _ _ z => z) rfl⟩
    · cases e
  · cases e
end
end Eb

/-! Eb: items, parts, built-ins by name, methods of built-in types, stores by place. -/
namespace Eb
open PySem L2
open Evl (Ex ex_l ex_t)
section
variable {X : Cx} {g : Gam} {th : Th} {mu : Mu} {H : Hp} {d : D} {v : V} {ds : List D}
theorem RpL.atI {G : Hp} {ds : List D} {xs : List V} {i : Int} {d : D} (h : RpL g th G ds xs) (e : atI ds i = some d) : ∃ v, atI xs i = some v ∧ Rp g th G d v := by
  unfold L2.atI at e ⊢
  rw [h.length]
  cases hj : ixN ds.length i with
  | none => rw [hj] at e; cases e
  | some j =>
    rw [hj] at e
    obtain ⟨v, e1, e2⟩ := h.get (i := j) e
    exact ⟨v, e1, e2⟩
/-- a plain subscript -/
structure IxM (X : Cx) (g : Gam) (f : Mu → D → D → Option D) : Prop where
  ex : ∃ r, IxR X r ∧ OpImp g r f
def ixD (mu : Mu) : D → D → Option D
  | .tup ds, .int i => atI ds i
  | .scr ns, .int i => (atI ns i).map .int
  | .str z, .int i => if z.length ≤ 100000 then (atI z.cps.toList i).map fun c => .str ⟨#[c]⟩ else none
  | x, .int i => match lstOf mu x with
    | some ds => atI ds i
    | none => none
  | _, _ => none
theorem im_ix (hK : X.K = g.K) : IxM X g ixD := by
  refine ⟨_, ix_seq, fun th mu H x y v u d o hx hy e Q q => ?_⟩
  rw [hK]
  unfold ixD at e
  split at e
  · rename_i ds i
    obtain ⟨a, xs, rfl, s1, r1, _⟩ := sqT_of hx
    obtain ⟨w, e1, e2⟩ := r1.atI e
    exact .inr (.inl ⟨a, xs, i, w, rfl, hy, s1, e1, q w H (fun _ _ z => z) e2⟩)
  · rename_i ns i
    obtain ⟨a, rfl, s1⟩ := hx
    cases hn : atI ns i with
    | none => rw [hn] at e; cases e
    | some n =>
      rw [hn] at e
      cases (Option.some.inj e)
      refine .inl ⟨a, _, i, .int n, rfl, hy, ex_l Gz_sub s1, ?_, q _ H (fun _ _ z => z) rfl⟩
      unfold L2.atI at hn ⊢
      rw [List.length_map]
      cases hj : ixN ns.length i with
      | none => rw [hj] at hn; cases hn
      | some j =>
        rw [hj] at hn
        have hn : ns[j]? = some n := hn
        show (ns.map V.int)[j]? = _
        rw [List.getElem?_map, hn]; rfl
  · rename_i z i
    split at e
    · rename_i hz
      cases hn : atI z.cps.toList i with
      | none => rw [hn] at e; cases e
      | some c =>
        rw [hn] at e
        cases (Option.some.inj e)
        exact .inr (.inr ⟨z, i, c, hx, hy, Evl.sz_of hz, hn, q _ H (fun _ _ z => z) rfl⟩)
    · cases e
  · rename_i i _ _ _
    split at e
    · rename_i ds hl
      obtain ⟨a, xs, rfl, s1, r1⟩ := lst_at o hx hl
      obtain ⟨w, e1, e2⟩ := r1.atI e
      exact .inl ⟨a, xs, i, w, rfl, hy, SqL.of s1, e1, q w H (fun _ _ z => z) e2⟩
    · cases e
  · cases e
/-! parts -/
def cutL {α : Type} (xs : List α) (lo hi : Option Int) : List α := (xs.drop (HT.sIx xs.length 0 lo)).take (HT.sIx xs.length xs.length hi - HT.sIx xs.length 0 lo)
theorem RpL.cut {G : Hp} {ds : List D} {xs : List V} {lo hi : Option Int} (h : RpL g th G ds xs) : RpL g th G (cutL ds lo hi) (cutV xs lo hi) := by
  unfold cutL cutV
  rw [h.length]
  exact (h.drop _).take _
def slD (mu : Mu) (x : D) (lo hi : Option Int) : Option D := match x with
  | .tup ds => some (.tup (cutL ds lo hi))
  | .str z => if z.length ≤ 100000 then some (.str (cutS z lo hi)) else none
  | x => match lstOf mu x with
    | some ds => some (.lst (cutL ds lo hi))
    | none => none
theorem slD_cases {x : D} {lo hi : Option Int} (e : slD mu x lo hi = some d) : (∃ ds, x = .tup ds ∧ d = .tup (cutL ds lo hi)) ∨ (∃ z, x = .str z ∧ z.length ≤ 100000 ∧ d = .str (cutS z lo hi)) ∨ ∃ ds, lstOf mu x = some ds ∧ d = .lst (cutL ds lo hi) := by
  unfold slD at e
  split at e
  · exact .inl ⟨_, rfl, (Option.some.inj e).symm⟩
  · split at e
    · exact .inr (.inl ⟨_, rfl, by assumption, (Option.some.inj e).symm⟩)
    · cases e
  · split at e
    · exact .inr (.inr ⟨_, by assumption, (Option.some.inj e).symm⟩)
    · cases e
def canO (g : Gam) (W : WX) (m : M (Option Int)) : TO := can g W (fun _ _ a b => a = b) m
def mNoP : M (Option Int) := retM none
def mPart (ma : ME) : M (Option Int) := bindM ma fun d => lift fun _ => match d with
  | .int i => some (some i)
  | _ => none
def mSl (ma : ME) (ml mh : M (Option Int)) : ME := bindM ma fun x => bindM ml fun lo => bindM mh fun hi => lift fun mu => slD mu x lo hi
end
section
variable {X : Cx} {g : Gam} {W : WX} {e a b : Expr} {pos p2 : Pos} {ma mb : ME} {ml mh : M (Option Int)} {lo hi : Option Expr}
theorem pm_ix (hK : X.K = g.K) (ha : PE X a (canE g W ma)) (hb : PE X b (canE g W mb)) (hs : PlainIx b := by exact fun _ _ => rfl) : PE X (.Subscript a b pos) (canE g W (mOp ixD ma mb)) := by
  obtain ⟨r, h1, h2⟩ := (im_ix (X := X) (g := g) hK).ex
  exact PEimp (pe_ix h1 ha hb hs) fun _ _ _ => can_op h2
theorem POimp {e : Option Expr} {t t' : TO} (h : PO X e t) (q : ∀ σ H Q, t' σ H Q → t σ H Q) : PO X e t' := ⟨fun pins s σ H Q I hw => h.run pins s σ H Q I (q _ _ _ hw)⟩
theorem pmo_none : PO X none (canO g W mNoP) := POimp po_none fun σ H Q ⟨rh, mu, th, r, h⟩ => canAt_ret r h th none H (Fw.refl r.ok) rfl
theorem pmo_some (h : PE X e (canE g W ma)) : PO X (some e) (canO g W (mPart ma)) := POimp (po_some h) fun σ H Q h => (can_bind (R := RE g) h).imp fun x H1 ⟨d, rh, mu1, th1, hd, r1, h1⟩ => by
  obtain ⟨o, e1, q⟩ := canAt_lift r1 h1
  split at e1
  · rename_i i
    cases (Option.some.inj e1)
    exact ⟨i, hd, q th1 (some i) H1 (Fw.refl r1.ok) rfl⟩
  · cases e1
theorem pm_slice (hK : X.K = g.K) (he : PE X e (canE g W ma)) (hl : PO X lo (canO g W ml)) (hu : PO X hi (canO g W mh)) : PE X (.Subscript e (.Slice lo hi none p2) pos) (canE g W (mSl ma ml mh)) := by
  refine PEimp (pe_slice (sl_list.or (sl_tupA.or sl_str)) he hl hu) fun σ H Q h => ?_
  refine (can_bind (R := RE g) h).imp fun x H1 ⟨d, rh, mu1, th1, hd, r1, h1⟩ => ⟨rh, mu1, th1, r1, ?_⟩
  refine (canAt_bind (R := fun _ _ a b => a = b) r1 h1).imp fun l H2 ⟨l', mu2, th2, f2, hl, r2, h2⟩ => ⟨rh, mu2, th2, r2, ?_⟩
  refine (canAt_bind (R := fun _ _ a b => a = b) r2 h2).imp fun u H3 ⟨u', mu3, th3, f3, hu, r3, h3⟩ => ?_
  subst hl hu
  obtain ⟨w, e1, q⟩ := canAt_lift r3 h3
  have hd3 := hd.mono (f2.trans f3).pf (f2.trans f3).ex
  rw [hK]
  rcases slD_cases e1 with ⟨ds, rfl, rfl⟩ | ⟨z, rfl, hz, rfl⟩ | ⟨ds, hl, rfl⟩
  · obtain ⟨a, xs, rfl, s1, rr, t1⟩ := sqT_of hd3
    refine .inr (.inl ⟨a, xs, rfl, s1, fun hw => ?_, fun hw p hp => q th3 _ _ (Fw.heap r3.ok (Evl.Ex.new hp)) (rp_newTup r3.ok hp rr.cut)⟩)
    have ec : cutL ds l' u' = ds := by
      unfold cutL
      rw [← rr.length, hw.1, hw.2, List.drop_zero, Nat.sub_zero]
      exact List.take_of_length_le (by rw [rr.length]; exact Nat.le_refl _)
    rw [ec] at q
    exact q th3 _ H3 (Fw.refl r3.ok) hd3
  · exact .inr (.inr ⟨z, hd3, Evl.sz_of hz, q th3 _ H3 (Fw.refl r3.ok) rfl⟩)
  · obtain ⟨a, xs, rfl, s1, rr⟩ := lst_at r3.ok hd3 hl
    exact .inl ⟨a, xs, rfl, SqL.of s1, fun p hp => q th3 _ _ (Fw.heap r3.ok (Evl.Ex.new hp)) (rp_newLst r3.ok hp rr.cut)⟩
/-! one-place operators -/
def mNeg (ma : ME) : ME := bindM ma fun d => lift fun _ => match d with
  | .int i => some (.int (-i))
  | _ => none
theorem pm_neg (ha : PE X a (canE g W ma)) : PE X (.UnaryOp .USub a pos) (canE g W (mNeg ma)) :=
  PEimp (pe_un un_neg ha) fun σ H Q h => (can_bind (R := RE g) h).imp fun x H1 ⟨d, rh, mu1, th1, hd, r1, h1⟩ => by
    obtain ⟨w, e1, q⟩ := canAt_lift r1 h1
    split at e1
    · cases (Option.some.inj e1)
      exact ⟨_, hd, q th1 _ H1 (Fw.refl r1.ok) rfl⟩
    · cases e1
end
/-! ### built-ins by name -/
abbrev CallF := List D → Mu → Option (D × Mu)
def pureF (h : Mu → List D → Option D) : CallF := fun ds mu => (h mu ds).map fun d => (d, mu)
structure CallM (X : Cx) (g : Gam) (f : Value) (h : CallF) : Prop where
  ex : ∃ r, CallR X f r ∧ ∀ th mu H ds vs d mu', Ok g th mu H → RpL g th (Gz th mu H) ds vs → h ds mu = some (d, mu') → ∀ Q : VK, (∀ th' w H', Fw g th mu H th' mu' H' → Rp g th' (Gz th' mu' H') d w → Q w H') → r vs H Q
def mCB (h : CallF) (mr : M (List D)) : ME := bindM mr fun ds _ mu => (h ds mu).map fun p => (.ok p.1, p.2)
theorem CallR.or {X : Cx} {f : Value} {r r' : List V → Hp → VK → Prop} (h : CallR X f r) (h' : CallR X f r') : CallR X f (fun vs H Q => r vs H Q ∨ r' vs H Q) := fun pins s σ H xs us Q I rs q =>
  q.elim (h pins s σ H xs us Q I rs) (h' pins s σ H xs us Q I rs)
theorem CallM.or {X : Cx} {g : Gam} {f : Value} {h1 h2 h : CallF} (a : CallM X g f h1) (b : CallM X g f h2) (e : ∀ ds mu p, h ds mu = some p → h1 ds mu = some p ∨ h2 ds mu = some p) : CallM X g f h := by
  obtain ⟨r1, a1, b1⟩ := a.ex
  obtain ⟨r2, a2, b2⟩ := b.ex
  refine ⟨_, a1.or a2, fun th mu H ds vs d mu' o hd ee Q q => ?_⟩
  rcases e ds mu _ ee with z | z
  · exact .inl (b1 th mu H ds vs d mu' o hd z Q q)
  · exact .inr (b2 th mu H ds vs d mu' o hd z Q q)
/-- a pure built-in -/
theorem CallM.mk' {X : Cx} {g : Gam} {f : Value} {r : List V → Hp → VK → Prop} {h : Mu → List D → Option D} (a : CallR X f r)
    (b : ∀ th mu H ds vs d, Ok g th mu H → RpL g th (Gz th mu H) ds vs → h mu ds = some d → ∀ Q : VK, (∀ w H', Ex H H' → Rp g th (Gz th mu H') d w → Q w H') → r vs H Q) : CallM X g f (pureF h) :=
  ⟨r, a, fun th mu H ds vs d mu' o hd e Q q => by
    unfold pureF at e
    cases hh : h mu ds with
    | none => rw [hh] at e; cases e
    | some d' =>
      rw [hh] at e
      cases (Option.some.inj e)
      exact b th mu H ds vs d o hd hh Q fun w H' ex hw => q th w H' (Fw.heap o ex) hw⟩
section
variable {X : Cx} {g : Gam} {W : WX} {e : Expr} {es : List Expr} {x : Str} {p pos : Pos} {mr : M (List D)} {h : CallF}
theorem can_cb {f : Value} (hc : CallM X g f h) : ∃ r, CallR X f r ∧ ∀ σ H Q, canE g W (mCB h mr) σ H Q → tCB r (canA g W mr) σ H Q := by
  obtain ⟨r, h1, h2⟩ := hc.ex
  refine ⟨r, h1, fun σ H Q hq => (can_bind (R := RA g) hq).imp fun vs H1 ⟨ds, rh, mu1, th1, hd, r1, s, mu', e1, q⟩ => ?_⟩
  have e1 : (h ds mu1).map (fun p => ((Rs.ok p.1 : Rs D), p.2)) = some (s, mu') := e1
  cases hf : h ds mu1 with
  | none => rw [hf] at e1; cases e1
  | some p =>
    obtain ⟨d, mu2⟩ := p
    rw [hf] at e1
    cases (Option.some.inj e1)
    exact h2 th1 mu1 H1 ds vs d mu2 r1.ok hd hf Q fun th' w H' f hw => q th' w H' f hw
theorem pm_callB {id : String} (hc : CallM X g (.builtin id) h) (hm : X.mg x = none) (hv : bootBuiltins x = some (.builtin id)) (ha : PA X (e :: es) (canA g W mr)) (hg : Gl X x := by rfl) (hn : x ≠ "__name__" := by decide) (hdb : (x == ("__debug__" : Str)) = false := by decide)
    (he : starEach (e :: es) X.env = (false, eval e X.env) :: starEach es X.env := by rfl) (hpl : (backTo pos (starEach es X.env)).any (·.1) = false := by rfl) : PE X (.Call (.Name x p) (e :: es) [] pos) (canE g W (mCB h mr)) := by
  obtain ⟨r, h1, h2⟩ := can_cb (W := W) (mr := mr) hc
  exact PEimp (pe_callB h1 hg hm hv ha hn hdb he hpl) h2
theorem pm_callTy {T : String} (hc : CallM X g (.type T) h) (hm : X.mg x = none) (hv : bootBuiltins x = some (.type T)) (ha : PA X (e :: es) (canA g W mr)) (hg : Gl X x := by rfl) (hn : x ≠ "__name__" := by decide) (hdb : (x == ("__debug__" : Str)) = false := by decide)
    (he : starEach (e :: es) X.env = (false, eval e X.env) :: starEach es X.env := by rfl) (hpl : (backTo pos (starEach es X.env)).any (·.1) = false := by rfl) : PE X (.Call (.Name x p) (e :: es) [] pos) (canE g W (mCB h mr)) := by
  obtain ⟨r, h1, h2⟩ := can_cb (W := W) (mr := mr) hc
  exact PEimp (pe_callTy h1 hg hm hv ha hn hdb he hpl) h2
end
end Eb

/-! Eb: the built-ins one by one. -/
namespace Eb
open PySem L2
open Evl (Ex ex_l ex_t)
def lenD (mu : Mu) : List D → Option D
  | [.str z] => if z.length ≤ 100000 then some (.int z.length) else none
  | [.tup ds] => some (.int ds.length)
  | [.scr ns] => some (.int ns.length)
  | [x] => match lstOf mu x with
    | some ds => some (.int ds.length)
    | none => none
  | _ => none
def intsOf : List D → Option (List Int)
  | [] => some []
  | .int i :: ds => (intsOf ds).map (i :: ·)
  | _ :: _ => none
/-- what list(..), tuple(..) copy -/
def copyOf (mu : Mu) : D → Option (List D)
  | .tup ds => some ds
  | x => lstOf mu x
def listD (mu : Mu) : List D → Option D
  | [x] => (copyOf mu x).map .lst
  | _ => none
def listC : CallF := fun ds mu => match ds with
  | [x] => (copyOf mu x).map fun es => (.cel mu.length, mu ++ [.lst es])
  | _ => none
def tupleD (mu : Mu) : List D → Option D
  | [x] => (copyOf mu x).map .tup
  | _ => none
def sumD (mu : Mu) : List D → Option D
  | [x] => match lstOf mu x with
    | some ds => (intsOf ds).map fun ns => .int ns.sum
    | none => none
  | _ => none
def intD (_ : Mu) : List D → Option D
  | [.int i] => some (.int i)
  | [.bl b] => some (.int (if b then 1 else 0))
  | _ => none
def strD (_ : Mu) : List D → Option D
  | [.int i] => if -1000000000 ≤ i ∧ i ≤ 1000000000 then some (.str (toString i)) else none
  | _ => none
def minD (_ : Mu) : List D → Option D
  | [.int i, .int j] => some (.int (if j < i then j else i))
  | _ => none
def maxD (_ : Mu) : List D → Option D
  | [.int i, .int j] => some (.int (if j > i then j else i))
  | _ => none
section
variable {X : Cx} {g : Gam} {th : Th} {mu : Mu} {H : Hp} {G : Hp}
theorem intsOf_eq : ∀ {ds : List D} {ns : List Int} {vs : List V}, RpL g th G ds vs → intsOf ds = some ns → vs = ns.map V.int
  | [], ns, vs, h, e => by
    cases (Option.some.inj e)
    exact h
  | .int i :: ds, ns, vs, h, e => by
    obtain ⟨v, r, rfl, h1, h2⟩ := h
    have e : (intsOf ds).map (i :: ·) = some ns := e
    cases hr : intsOf ds with
    | none => rw [hr] at e; cases e
    | some ms =>
      rw [hr] at e
      cases (Option.some.inj e)
      rw [show v = .int i from h1, intsOf_eq h2 hr]
      rfl
  | .non :: ds, ns, vs, h, e => by cases e
  | .bl _ :: ds, ns, vs, h, e => by cases e
  | .str _ :: ds, ns, vs, h, e => by cases e
  | .tup _ :: ds, ns, vs, h, e => by cases e
  | .lst _ :: ds, ns, vs, h, e => by cases e
  | .ins _ _ :: ds, ns, vs, h, e => by cases e
  | .set _ :: ds, ns, vs, h, e => by cases e
  | .cel _ :: ds, ns, vs, h, e => by cases e
  | .scr _ :: ds, ns, vs, h, e => by cases e
  | .ty _ :: ds, ns, vs, h, e => by cases e
  | .cls _ :: ds, ns, vs, h, e => by cases e
  | .dic _ _ :: ds, ns, vs, h, e => by cases e
  | .exn _ _ :: ds, ns, vs, h, e => by cases e
theorem cm_len (hK : X.K = g.K) : CallM X g (.builtin "len") (pureF lenD) := by
  refine .mk' call_len fun th mu H ds vs d o hd e Q q => ?_
  rw [hK]
  unfold lenD at e
  split at e
  · rename_i z
    split at e
    · rename_i hz
      cases (Option.some.inj e)
      obtain ⟨v, rfl, hv⟩ := rpL1 hd
      rw [show v = .str z from hv]
      exact ⟨_, _, rfl, ⟨Evl.sz_of hz, rfl⟩, q _ H (fun _ _ z => z) rfl⟩
    · cases e
  · rename_i es
    cases (Option.some.inj e)
    obtain ⟨v, rfl, hv⟩ := rpL1 hd
    obtain ⟨a, xs, rfl, s1, r1, _⟩ := sqT_of hv
    exact ⟨_, _, rfl, .inr ⟨xs, s1, r1.length.symm⟩, q _ H (fun _ _ z => z) rfl⟩
  · rename_i ns
    cases (Option.some.inj e)
    obtain ⟨v, rfl, hv⟩ := rpL1 hd
    obtain ⟨a, rfl, s1⟩ := hv
    exact ⟨_, _, rfl, .inl ⟨_, ex_l Gz_sub s1, (List.length_map ..).symm⟩, q _ H (fun _ _ z => z) rfl⟩
  · split at e
    · rename_i es hl
      cases (Option.some.inj e)
      obtain ⟨v, rfl, hv⟩ := rpL1 hd
      obtain ⟨a, xs, rfl, s1, r1⟩ := lst_at o hv hl
      exact ⟨_, _, rfl, .inl ⟨xs, SqL.of s1, r1.length.symm⟩, q _ H (fun _ _ z => z) rfl⟩
    · cases e
  · cases e
theorem copy_at {d : D} {v : V} {es : List D} (o : Ok g th mu H) (h : Rp g th (Gz th mu H) d v) (e : copyOf mu d = some es) : ∃ a xs, v = .ref a ∧ (SqL g.K H a xs ∨ SqT g.K H a xs) ∧ RpL g th (Gz th mu H) es xs := by
  unfold copyOf at e
  split at e
  · cases (Option.some.inj e)
    obtain ⟨a, xs, rfl, s1, r1, _⟩ := sqT_of h
    exact ⟨a, xs, rfl, .inr s1, r1⟩
  · obtain ⟨a, xs, rfl, s1, r1⟩ := lst_at o h e
    exact ⟨a, xs, rfl, .inl (SqL.of s1), r1⟩
theorem cm_list (hK : X.K = g.K) : CallM X g (.type "list") (pureF listD) := by
  refine .mk' call_list_of fun th mu H ds vs d o hd e Q q => ?_
  rw [hK]
  unfold listD at e
  split at e
  · rename_i x
    obtain ⟨v, rfl, hv⟩ := rpL1 hd
    cases hc : copyOf mu x with
    | none => rw [hc] at e; cases e
    | some es =>
      rw [hc] at e
      cases (Option.some.inj e)
      obtain ⟨a, xs, rfl, s1, r1⟩ := copy_at o hv hc
      exact ⟨a, xs, rfl, s1, fun p hp => q _ _ (Evl.Ex.new hp) (rp_newLst o hp r1)⟩
  · cases e
theorem cell_new {es : List D} {xs : List V} {p : Addr} (o : Ok g th mu H) (hp : H p = none) (r : RpL g th (Gz th mu H) es xs) :
    Fw g th mu H (th.add p) (mu ++ [.lst es]) (upd H p (.lst xs)) ∧ Rp g (th.add p) (Gz (th.add p) (mu ++ [.lst es]) (upd H p (.lst xs))) (.cel mu.length) (.ref p) := by
  obtain ⟨o2, eg⟩ := o.push (u := .lst xs) (c := .lst es) hp rfl fun th' G' pf ex => ⟨xs, upd_same, RpL.mono pf ex _ _ r⟩
  refine ⟨⟨Pfx.add, o2, by rw [eg]; exact fun _ _ z => z, fun a m => ?_⟩, p, rfl, ?_⟩
  · obtain ⟨_, u, hu, _⟩ := o.hid a m
    exact upd_ne (ne_of_none hu hp)
  · show (th.ids ++ [p])[mu.length]? = some p
    rw [← o.len]; simp
theorem cm_listC (hK : X.K = g.K) : CallM X g (.type "list") listC := by
  refine ⟨_, call_list_of, fun th mu H ds vs d mu' o hd e Q q => ?_⟩
  rw [hK]
  unfold listC at e
  split at e
  · rename_i x
    obtain ⟨v, rfl, hv⟩ := rpL1 hd
    cases hc : copyOf mu x with
    | none => rw [hc] at e; cases e
    | some es =>
      rw [hc] at e
      cases (Option.some.inj e)
      obtain ⟨a, xs, rfl, s1, r1⟩ := copy_at o hv hc
      refine ⟨a, xs, rfl, s1, fun p hp => ?_⟩
      obtain ⟨f, hr⟩ := cell_new o hp r1
      exact q _ _ _ f hr
  · cases e
theorem cm_tuple (hK : X.K = g.K) : CallM X g (.type "tuple") (pureF tupleD) := by
  refine .mk' call_tuple_of fun th mu H ds vs d o hd e Q q => ?_
  rw [hK]
  unfold tupleD at e
  split at e
  · rename_i x
    obtain ⟨v, rfl, hv⟩ := rpL1 hd
    cases hc : copyOf mu x with
    | none => rw [hc] at e; cases e
    | some es =>
      rw [hc] at e
      cases (Option.some.inj e)
      unfold copyOf at hc
      split at hc
      · cases (Option.some.inj hc)
        obtain ⟨a, xs, rfl, s1, r1, _⟩ := sqT_of hv
        exact ⟨a, xs, rfl, .inr ⟨s1, q _ H (fun _ _ z => z) hv⟩⟩
      · obtain ⟨a, xs, rfl, s1, r1⟩ := lst_at o hv hc
        exact ⟨a, xs, rfl, .inl ⟨SqL.of s1, fun p hp => q _ _ (Evl.Ex.new hp) (rp_newTup o hp r1)⟩⟩
  · cases e
theorem cm_sum (hK : X.K = g.K) (hc : X.calm = true) : CallM X g (.builtin "sum") (pureF sumD) := by
  refine .mk' (cr_sum hc) fun th mu H ds vs d o hd e Q q => ?_
  rw [hK]
  unfold sumD at e
  split at e
  · rename_i x
    obtain ⟨v, rfl, hv⟩ := rpL1 hd
    split at e
    · rename_i es hl
      obtain ⟨a, xs, rfl, s1, r1⟩ := lst_at o hv hl
      cases hi : intsOf es with
      | none => rw [hi] at e; cases e
      | some ns =>
        rw [hi] at e
        cases (Option.some.inj e)
        rw [intsOf_eq r1 hi] at s1
        exact ⟨a, ns, rfl, SqL.of s1, q _ H (fun _ _ z => z) rfl⟩
    · cases e
  · cases e
theorem cm_int : CallM X g (.type "int") (pureF intD) := by
  refine .mk' call_int1 fun th mu H ds vs d o hd e Q q => ?_
  unfold intD at e
  split at e
  · cases (Option.some.inj e)
    obtain ⟨v, rfl, hv⟩ := rpL1 hd
    exact .inl ⟨_, by rw [show v = _ from hv], q _ H (fun _ _ z => z) rfl⟩
  · cases (Option.some.inj e)
    obtain ⟨v, rfl, hv⟩ := rpL1 hd
    exact .inr ⟨_, by rw [show v = _ from hv], q _ H (fun _ _ z => z) rfl⟩
  · cases e
theorem log_small {i : Int} (h : -1000000000 ≤ i ∧ i ≤ 1000000000) : i.natAbs.log2 < 1920 := by
  by_cases h0 : i.natAbs = 0
  · rw [h0]; decide
  · rw [Nat.log2_lt h0]
    exact Nat.lt_of_lt_of_le (show i.natAbs < 2 ^ 30 by omega) (Nat.pow_le_pow_right (by decide) (by decide))
theorem cm_str : CallM X g (.type "str") (pureF strD) := by
  refine .mk' call_str_int fun th mu H ds vs d o hd e Q q => ?_
  unfold strD at e
  split at e
  · split at e
    · rename_i hs
      cases (Option.some.inj e)
      obtain ⟨v, rfl, hv⟩ := rpL1 hd
      exact ⟨_, by rw [show v = _ from hv], log_small hs, q _ H (fun _ _ z => z) rfl⟩
    · cases e
  · cases e
theorem cm_min (hc : X.calm = true) : CallM X g (.builtin "min") (pureF minD) := by
  refine .mk' (call_min2 hc) fun th mu H ds vs d o hd e Q q => ?_
  unfold minD at e
  split at e
  · cases (Option.some.inj e)
    obtain ⟨v, w, rfl, hv, hw⟩ := rpL2 hd
    exact ⟨_, _, by rw [show v = _ from hv, show w = _ from hw], q _ H (fun _ _ z => z) rfl⟩
  · cases e
theorem cm_max (hc : X.calm = true) : CallM X g (.builtin "max") (pureF maxD) := by
  refine .mk' (call_max2 hc) fun th mu H ds vs d o hd e Q q => ?_
  unfold maxD at e
  split at e
  · cases (Option.some.inj e)
    obtain ⟨v, w, rfl, hv, hw⟩ := rpL2 hd
    exact ⟨_, _, by rw [show v = _ from hv, show w = _ from hw], q _ H (fun _ _ z => z) rfl⟩
  · cases e
end
/-! ### methods of built-in types -/
abbrev MtF := D → List D → Mu → Option (D × Mu)
structure MtS (X : Cx) (g : Gam) (T id : String) (chk : Mu → D → Bool) (f : MtF) : Prop where
  ex : ∃ r, MtR X id r ∧ (∀ th mu H d v, Ok g th mu H → Rp g th (Gz th mu H) d v → chk mu d = true → tyV g.K T v H) ∧
    ∀ th mu H d v ds vs d' mu', Ok g th mu H → Rp g th (Gz th mu H) d v → RpL g th (Gz th mu H) ds vs → f d ds mu = some (d', mu') → ∀ Q : VK, (∀ th' w H', Fw g th mu H th' mu' H' → Rp g th' (Gz th' mu' H') d' w → Q w H') → r v vs H Q
def mBM (chk : Mu → D → Bool) (f : MtF) (mo : ME) (mr : M (List D)) : ME := bindM mo fun o => bindM (lift fun mu => if chk mu o then some () else none) fun _ => bindM mr fun ds _ mu => (f o ds mu).map fun p => (.ok p.1, p.2)
section
variable {X : Cx} {g : Gam} {W : WX} {o e : Expr} {es : List Expr} {name : Str} {apos cpos : Pos} {T id : String} {chk : Mu → D → Bool} {f : MtF} {mo : ME} {mr : M (List D)}
theorem can_bm {r : V → List V → Hp → VK → Prop} (h1 : ∀ th mu H d v, Ok g th mu H → Rp g th (Gz th mu H) d v → chk mu d = true → tyV g.K T v H)
    (h2 : ∀ th mu H d v ds vs d' mu', Ok g th mu H → Rp g th (Gz th mu H) d v → RpL g th (Gz th mu H) ds vs → f d ds mu = some (d', mu') → ∀ Q : VK, (∀ th' w H', Fw g th mu H th' mu' H' → Rp g th' (Gz th' mu' H') d' w → Q w H') → r v vs H Q)
    {σ : L2.St} {H : Hp} {Q : VK} (h : canE g W (mBM chk f mo mr) σ H Q) : canE g W mo σ H fun x H1 => tyV g.K T x H1 ∧ canA g W mr σ H1 fun xs H2 => r x xs H2 Q :=
  (can_bind (R := RE g) h).imp fun v H1 ⟨d, rh, mu1, th1, hd, r1, h1'⟩ => by
    obtain ⟨s, mu2, e2, q2⟩ := canAt_bind (R := fun _ _ (a : Unit) (b : Unit) => a = b) r1 h1'
    have e2 : (if chk mu1 d then some () else none).map (fun a => (Rs.ok a, mu1)) = some (s, mu2) := e2
    by_cases hc : chk mu1 d = true
    · rw [if_pos hc] at e2
      cases (Option.some.inj e2)
      refine ⟨h1 th1 mu1 H1 d v r1.ok hd hc, ?_⟩
      obtain ⟨_, mu3, th3, f3, _, r3, h3⟩ := q2 th1 () H1 (Fw.refl r1.ok) rfl
      refine ⟨rh, mu3, th3, r3, (canAt_bind (R := RA g) r3 h3).imp fun vs H4 ⟨es, mu4, th4, f4, hs, r4, s4, mu5, e5, q5⟩ => ?_⟩
      have e5 : (f d es mu4).map (fun p => ((Rs.ok p.1 : Rs D), p.2)) = some (s4, mu5) := e5
      cases hf : f d es mu4 with
      | none => rw [hf] at e5; cases e5
      | some p =>
        obtain ⟨d', mu6⟩ := p
        rw [hf] at e5
        cases (Option.some.inj e5)
        exact h2 th4 mu4 H4 d v es vs d' mu6 r4.ok (hd.mono (f3.trans f4).pf (f3.trans f4).ex) hs hf Q fun th' w H' f hw => q5 th' w H' f hw
    · rw [if_neg hc] at e2; cases e2
theorem pm_bm (hK : X.K = g.K) (m : MtS X g T id chk f) (pa : PlainAttrs T) (slot : PySem.Slot T name id) (hty : typeOf (.builtin id) = pure (.type "method_descriptor")) (ho : PE X o (canE g W mo)) (ha : PA X (e :: es) (canA g W mr))
    (hbase : attributeBase o name X.env (eval o X.env) = eval o X.env := by rfl)
    (hfew : ((backTo cpos (starEach (e :: es) X.env)).all (fun x => !x.1) && (backToKw cpos (keywordEach [] X.env)).all (fun x => x.1.isSome) && decide ((e :: es).length + ([] : List Keyword).length + (if ([] : List Keyword).isEmpty then 0 else 1) < 30)) = true := by rfl)
    (hline : (apos.endLine == cpos.line) = true := by rfl) (hs : starEach (e :: es) X.env = (false, eval e X.env) :: starEach es X.env := by rfl) (hplain : (backTo cpos (starEach es X.env)).any (·.1) = false := by rfl) :
    PE X (.Call (.Attribute o name apos) (e :: es) [] cpos) (canE g W (mBM chk f mo mr)) := by
  obtain ⟨r, h0, h1, h2⟩ := m.ex
  refine PEimp (pe_bm pa slot hty h0 ho ha hbase hfew hline hs hplain) fun σ H Q h => ?_
  have q := can_bm h1 h2 h
  rw [← hK] at q
  exact q
theorem pm_bm0 (hK : X.K = g.K) (m : MtS X g T id chk f) (pa : PlainAttrs T) (slot : PySem.Slot T name id) (hty : typeOf (.builtin id) = pure (.type "method_descriptor")) (ho : PE X o (canE g W mo))
    (hbase : attributeBase o name X.env (eval o X.env) = eval o X.env := by rfl) (hline : (apos.endLine == cpos.line) = true := by rfl) : PE X (.Call (.Attribute o name apos) [] [] cpos) (canE g W (mBM chk f mo mNil)) := by
  obtain ⟨r, h0, h1, h2⟩ := m.ex
  refine PEimp (pe_bm0 pa slot hty h0 ho hbase hline) fun σ H Q h => ?_
  have q := can_bm h1 h2 h
  rw [← hK] at q
  refine q.imp fun v H1 z => ⟨z.1, ?_⟩
  obtain ⟨rh, mu, th, r, h4⟩ := z.2
  exact canAt_ret (R := RA g) r h4 th [] H1 (Fw.refl r.ok) rfl
end
/-- o is a cell that holds a list -/
def isCell (mu : Mu) : D → Bool
  | .cel k => match mu[k]? with
    | some (.lst _) => true
    | _ => false
  | _ => false
def isStr (_ : Mu) : D → Bool
  | .str _ => true
  | _ => false
def appF : MtF := fun o ds mu => match o, ds with
  | .cel k, [d] => match mu[k]? with
    | some (.lst xs) => if xs.length < 100000 then some (.non, mu.set k (.lst (xs ++ [d]))) else none
    | _ => none
  | _, _ => none
def clearF : MtF := fun o ds mu => match o, ds with
  | .cel k, [] => match mu[k]? with
    | some (.lst _) => some (.non, mu.set k (.lst []))
    | _ => none
  | _, _ => none
section
variable {X : Cx} {g : Gam} {th : Th} {mu : Mu} {H : Hp}
theorem isCell_ty {d : D} {v : V} (o : Ok g th mu H) (h : Rp g th (Gz th mu H) d v) (c : isCell mu d = true) : tyV g.K "list" v H := by
  unfold isCell at c
  split at c
  · split at c
    · rename_i ds hk
      obtain ⟨a, rfl, ha⟩ := h
      obtain ⟨xs, q1, q2⟩ := o.cel _ a _ ha hk
      exact .inl ⟨rfl, xs, SqL.of q1⟩
    · cases c
  · cases c
/-- a list's cell is written -/
theorem cell_set {k : Nat} {a : Addr} {ds es : List D} {ys : List V} (o : Ok g th mu H) (ha : th.ids[k]? = some a) (hk : mu[k]? = some (.lst ds)) (r : RpL g th (Gz th mu H) es ys) : Fw g th mu H th (mu.set k (.lst es)) (upd H a (.lst ys)) := by
  obtain ⟨o2, eg, hh⟩ := o.write (u := .lst ys) (c' := .lst es) ha hk rfl rfl ⟨ys, upd_same, r⟩
  exact ⟨Pfx.refl, o2, by rw [eg]; exact fun _ _ z => z, hh⟩
theorem ms_append : MtS X g "list" "list.append" isCell appF := by
  refine ⟨_, mt_append, fun th mu H d v o h c => isCell_ty o h c, fun th mu H d v ds vs d' mu' o h hs e Q q => ?_⟩
  unfold appF at e
  split at e
  · rename_i k x
    split at e
    · rename_i xs hk
      split at e
      · rename_i hl
        cases (Option.some.inj e)
        obtain ⟨w, rfl, hw⟩ := rpL1 hs
        obtain ⟨a, rfl, ha⟩ := h
        obtain ⟨ys, q1, q2⟩ := o.cel _ a _ ha hk
        have f := cell_set (es := xs ++ [x]) (ys := ys ++ [w]) o ha hk (RpL.append q2 (es := [x]) (ws := [w]) ⟨w, [], rfl, hw, rfl⟩)
        exact ⟨a, ys, w, rfl, rfl, q1, Evl.sz_lt (by rw [q2.length]; exact hl), q _ _ _ f rfl⟩
      · cases e
    · cases e
  · cases e
theorem ms_clear : MtS X g "list" "list.clear" isCell clearF := by
  refine ⟨_, mt_clear, fun th mu H d v o h c => isCell_ty o h c, fun th mu H d v ds vs d' mu' o h hs e Q q => ?_⟩
  unfold clearF at e
  split at e
  · rename_i k
    split at e
    · rename_i xs hk
      cases (Option.some.inj e)
      obtain ⟨a, rfl, ha⟩ := h
      obtain ⟨ys, q1, q2⟩ := o.cel _ a _ ha hk
      have f := cell_set (es := []) (ys := []) o ha hk rfl
      exact ⟨a, ys, rfl, hs, q1, q _ _ _ f rfl⟩
    · cases e
  · cases e
end
def strsOf : List D → Option (List Str)
  | [] => some []
  | .str i :: ds => (strsOf ds).map (i :: ·)
  | _ :: _ => none
def joinF : MtF := fun o ds mu => match o, ds with
  | .str a, [x] => match copyOf mu x with
    | some es => match strsOf es with
      | some ys => if (ys.map (·.length)).sum + ys.length * a.length ≤ 100000 then some (.str (Txt.join a ys), mu) else none
      | none => none
    | none => none
  | _, _ => none
section
variable {X : Cx} {g : Gam} {th : Th} {mu : Mu} {H : Hp} {G : Hp}
theorem strsOf_eq : ∀ {ds : List D} {ns : List Str} {vs : List V}, RpL g th G ds vs → strsOf ds = some ns → vs = ns.map V.str
  | [], ns, vs, h, e => by
    cases (Option.some.inj e)
    exact h
  | d :: ds, ns, vs, h, e => by
    obtain ⟨v, r, rfl, h1, h2⟩ := h
    cases d with
    | str i =>
      have e : (strsOf ds).map (i :: ·) = some ns := e
      cases hr : strsOf ds with
      | none => rw [hr] at e; cases e
      | some ms =>
        rw [hr] at e
        cases (Option.some.inj e)
        rw [show v = .str i from h1, strsOf_eq h2 hr]
        rfl
    | _ => cases e
theorem ms_join (hK : X.K = g.K) : MtS X g "str" "str.join" isStr joinF := by
  refine ⟨_, mt_join, fun th mu H d v o h c => ?_, fun th mu H d v ds vs d' mu' o h hs e Q q => ?_⟩
  · cases d with
    | str z => rw [show v = .str z from h]; rfl
    | _ => cases c
  · rw [hK]
    unfold joinF at e
    split at e
    · rename_i a x
      split at e
      · rename_i es hc
        split at e
        · rename_i ys hy
          split at e
          · rename_i hl
            cases (Option.some.inj e)
            obtain ⟨w, rfl, hw⟩ := rpL1 hs
            obtain ⟨p, xs, rfl, s1, r1⟩ := copy_at o hw hc
            rw [strsOf_eq r1 hy] at s1
            exact ⟨a, p, ys, h, rfl, s1, by omega, q _ _ _ (Fw.refl o) rfl⟩
          · cases e
        · cases e
      · cases e
    · cases e
end
/-! ### xs[i] = e -/
def stIx (o i y : D) (mu : Mu) : Option Mu := match o, i with
  | .cel k, .int i => match mu[k]? with
    | some (.lst ds) => (ixN ds.length i).map fun j => mu.set k (.lst (ds.set j y))
    | _ => none
  | _, _ => none
theorem stIx_cases {o i y : D} {mu mu' : Mu} (h : stIx o i y mu = some mu') : ∃ k j ds n, o = .cel k ∧ i = .int j ∧ mu[k]? = some (.lst ds) ∧ ixN ds.length j = some n ∧ mu' = mu.set k (.lst (ds.set n y)) := by
  unfold stIx at h
  split at h
  · rename_i k j
    split at h
    · rename_i ds hk
      cases hj : ixN ds.length j with
      | none => rw [hj] at h; cases h
      | some n =>
        rw [hj] at h
        exact ⟨k, j, ds, n, rfl, rfl, hk, hj, (Option.some.inj h).symm⟩
    · cases h
  · cases h
def sPut (mo mi mv : ME) : MS := bindS mv fun y => bindS mo fun o => bindS mi fun i rh mu => (stIx o i y mu).map fun mu' => (.nx rh, mu')
section
variable {X : Cx} {g : Gam} {W : WX} {o i e : Expr} {mo mi mv : ME} {pos pos' : Pos}
theorem pm_put (ho : PE X o (canE g W mo)) (hi : PE X i (canE g W mi)) (hv : PE X e (canE g W mv))
    (ha : ∀ v, assign (.Subscript o i pos') X.env v = (do
      let ov ← holding [v] (eval o X.env)
      let iv ← holding [v, ov] (eval i X.env)
      standAt pos'
      holding [v, ov, iv] (setItem ov iv v)
      release [v, ov, iv] []) := by intro _; rfl)
    (hs : swapsWithSole [.Subscript o i pos'] e pos.line X.env = pure false := by rfl) (hw : swappedStores [.Subscript o i pos'] e X.env = pure none := by rfl) (h1 : (assignEach [.Subscript o i pos'] X.env).map (·.2) = [assign (.Subscript o i pos') X.env] := by rfl) :
    PS X (.Assign [.Subscript o i pos'] e pos) (canS g W (sPut mo mi mv)) :=
  PSimp (ps_asg hv (pg_sub ho hi set_list ha) hs hw h1) fun Dn σ H h => (canS_bind (R := RE g) h).imp fun y H1 ⟨dy, rh, mu1, th1, hy, r1, h1⟩ => ⟨rh, mu1, th1, r1, (canSAt_bind (R := RE g) r1 h1).imp fun x H2 ⟨d, mu2, th2, f2, hd, r2, h2⟩ =>
    ⟨rh, mu2, th2, r2, (canSAt_bind (R := RE g) r2 h2).imp fun z H3 ⟨di, mu3, th3, f3, hi, r3, ot, mu', e, q⟩ => by
      have e : (stIx d di dy mu3).map (fun mu' => (Out.nx rh, mu')) = some (ot, mu') := e
      have hy3 := hy.mono (f2.trans f3).pf (f2.trans f3).ex
      have hd3 := hd.mono f3.pf f3.ex
      cases hst : stIx d di dy mu3 with
      | none => rw [hst] at e; cases e
      | some mu4 =>
        rw [hst] at e
        cases (Option.some.inj e)
        obtain ⟨k, j, ds, n, rfl, rfl, hk, hj, rfl⟩ := stIx_cases hst
        obtain ⟨a, rfl, ha⟩ := hd3
        obtain ⟨ys, q1, q2⟩ := r3.ok.cel _ a _ ha hk
        have f := cell_set (es := ds.set n dy) (ys := ys.set n y) r3.ok ha hk (q2.set n hy3)
        exact ⟨a, ys, j, n, rfl, hi, q1, by rw [q2.length]; exact hj, q th3 σ _ f (r3.fw f)⟩⟩⟩
end
end Eb

/-! Eb: sets of ints, sorted tuples, isinstance, a tuple once. -/
namespace Eb
open PySem L2 PyProof.Rows
open Evl (Ex ex_l ex_t)
/-! ### sorted lists of ints -/
def insS (x : Int) : List Int → List Int
  | [] => [x]
  | y :: r => if x < y then x :: y :: r else if x = y then y :: r else y :: insS x r
/-- the members, rising, each once -/
def sdd : List Int → List Int
  | [] => []
  | x :: r => insS x (sdd r)
def insI (x : Int) : List Int → List Int
  | [] => [x]
  | y :: r => if x ≤ y then x :: y :: r else y :: insI x r
/-- the items, rising -/
def srt : List Int → List Int
  | [] => []
  | x :: r => insI x (srt r)
theorem insS_mem {x k : Int} : ∀ {l : List Int}, k ∈ insS x l ↔ k = x ∨ k ∈ l
  | [] => by simp [insS]
  | y :: r => by
    unfold insS
    split
    · simp
    · split
      · rename_i h1 h2
        subst h2
        simp
      · rw [List.mem_cons, insS_mem, List.mem_cons]
        constructor
        · rintro (h | h | h) <;> simp [h]
        · rintro (h | h | h) <;> simp [h]
theorem sdd_mem {k : Int} : ∀ {l : List Int}, k ∈ sdd l ↔ k ∈ l
  | [] => by simp [sdd]
  | x :: r => by rw [sdd, insS_mem, sdd_mem, List.mem_cons]
theorem insS_pw {x : Int} : ∀ {l : List Int}, l.Pairwise (· < ·) → (insS x l).Pairwise (· < ·)
  | [], _ => by simp [insS]
  | y :: r, h => by
    obtain ⟨h1, h2⟩ := List.pairwise_cons.mp h
    unfold insS
    split
    · rename_i hl
      refine List.pairwise_cons.mpr ⟨fun z hz => ?_, h⟩
      rcases List.mem_cons.mp hz with rfl | hz
      · exact hl
      · exact Int.lt_trans hl (h1 z hz)
    · split
      · exact h
      · rename_i ha hb
        refine List.pairwise_cons.mpr ⟨fun z hz => ?_, insS_pw h2⟩
        rcases insS_mem.mp hz with rfl | hz
        · omega
        · exact h1 z hz
theorem sdd_pw : ∀ l : List Int, (sdd l).Pairwise (· < ·)
  | [] => List.Pairwise.nil
  | x :: r => insS_pw (sdd_pw r)
theorem insI_perm (x : Int) : ∀ l : List Int, (insI x l).Perm (x :: l)
  | [] => .refl _
  | y :: r => by
    unfold insI
    split
    · exact .refl _
    · exact ((insI_perm x r).cons y).trans (List.Perm.swap x y r)
theorem srt_perm : ∀ l : List Int, (srt l).Perm l
  | [] => .refl _
  | x :: r => (insI_perm x (srt r)).trans ((srt_perm r).cons x)
theorem insI_pw {x : Int} : ∀ {l : List Int}, l.Pairwise (· ≤ ·) → (insI x l).Pairwise (· ≤ ·)
  | [], _ => by simp [insI]
  | y :: r, h => by
    obtain ⟨h1, h2⟩ := List.pairwise_cons.mp h
    unfold insI
    split
    · rename_i hl
      refine List.pairwise_cons.mpr ⟨fun z hz => ?_, h⟩
      rcases List.mem_cons.mp hz with rfl | hz
      · exact hl
      · exact Int.le_trans hl (h1 z hz)
    · rename_i ha
      refine List.pairwise_cons.mpr ⟨fun z hz => ?_, insI_pw h2⟩
      rcases List.mem_cons.mp ((insI_perm x r).mem_iff.mp hz) with rfl | hz
      · omega
      · exact h1 z hz
theorem srt_pw : ∀ l : List Int, (srt l).Pairwise (· ≤ ·)
  | [] => List.Pairwise.nil
  | x :: r => insI_pw (srt_pw r)
/-- two rising arrangements of the same ints are one -/
theorem pw_unique : ∀ {l m : List Int}, l.Perm m → l.Pairwise (· ≤ ·) → m.Pairwise (· ≤ ·) → l = m
  | [], m, p, _, _ => (List.Perm.nil_eq p)
  | a :: l, [], p, _, _ => absurd p.length_eq (by simp)
  | a :: l, b :: m, p, h1, h2 => by
    obtain ⟨q1, r1⟩ := List.pairwise_cons.mp h1
    obtain ⟨q2, r2⟩ := List.pairwise_cons.mp h2
    have e : a = b := by
      have ha : a ∈ b :: m := p.mem_iff.mp List.mem_cons_self
      have hb : b ∈ a :: l := p.mem_iff.mpr List.mem_cons_self
      rcases List.mem_cons.mp ha with e | ha
      · exact e
      · rcases List.mem_cons.mp hb with e | hb
        · exact e.symm
        · exact Int.le_antisymm (q1 b hb) (q2 a ha)
    subst e
    rw [pw_unique (List.Perm.cons_inv p) r1 r2]
theorem lt_le {l : List Int} (h : l.Pairwise (· < ·)) : l.Pairwise (· ≤ ·) := h.imp fun h => Int.le_of_lt h
theorem lt_nd {l : List Int} (h : l.Pairwise (· < ·)) : l.Nodup := h.imp fun h => Int.ne_of_lt h
theorem nd_perm {l m : List Int} (h1 : l.Nodup) (h2 : m.Nodup) (h : ∀ k, k ∈ l ↔ k ∈ m) : l.Perm m := by
  refine (List.perm_ext_iff_of_nodup h1 h2).mpr h
theorem sdd_unique {l m : List Int} (h : l.Pairwise (· < ·)) (hm : ∀ k, k ∈ l ↔ k ∈ m) : l = sdd m :=
  pw_unique (nd_perm (lt_nd h) (lt_nd (sdd_pw m)) fun k => (hm k).trans sdd_mem.symm) (lt_le h) (lt_le (sdd_pw m))
/-! ### set(tuple of ints) -/
section
variable {X : Cx} {g : Gam} {th : Th} {mu : Mu} {H : Hp} {G : Hp}
theorem set_count {w : World} {h : Heap} {a : Addr} {S : Int → Bool} {n : Nat} {l : List Int} (R : SetR w h a S n) (hn : l.Nodup) (hm : ∀ k, S k = true ↔ k ∈ l) : n = l.length := by
  obtain ⟨o, es, ep, t, _, _, _, _, nd, hk, _, _, hs, _⟩ := R
  have p := nd_perm hn nd fun k => (hm k).symm.trans (hk k)
  rw [p.length_eq, List.length_map, Array.length_toList]
  exact hs.symm
def rSetT (K : PySem.W.Frag) (w : World) : List V → Hp → VK → Prop := fun vs H Q => ∃ (a : Addr) (ns : List Int), vs = [.ref a] ∧ SqT K H a (ns.map V.int) ∧ ns.length ≤ 1000 ∧
  ∀ p S, H p = none → (∀ k, S k = true ↔ k ∈ ns) → Q (.ref p) (upd H p (SetO w p S (sdd ns).length))
theorem cr_setT (hc : X.calm = true) : CallR X (.type "set") (rSetT X.K X.w) := by
  intro pins s σ H vs us Q I r h
  obtain ⟨a, ns, rfl, hs, hl, q⟩ := h
  obtain ⟨its, rv, ht, _⟩ := I.tuple hs
  rw [Vals.ref1 r]
  have hi : IntsAre its.toArray.toList ns := intsAre_of rv
  have h4 : ns.length + 1 < scanBound := Nat.lt_of_le_of_lt (Nat.succ_le_succ hl) (by decide)
  refine call_set_tupI ns (I.ok.hd hc) ht hi h4 fun h' tk c R hcn k => ?_
  have ec : c = (sdd ns).length := set_count R (lt_nd (sdd_pw ns)) fun k => by rw [decide_eq_true_eq, sdd_mem]
  subst ec
  refine ⟨.ref s.heap.objs.size, _, I.laid (t' := tk) (o := SetO X.w s.heap.objs.size (fun j => decide (j ∈ ns)) (sdd ns).length) k (Nat.le_refl _) (setO_new R), rfl, ?_⟩
  exact q _ _ (I.hok.fresh (Nat.le_refl _)) fun k => decide_eq_true_iff
def setD (_ : Mu) : List D → Option D
  | [.tup ds] => match intsOf ds with
    | some ns => if ns.length ≤ 1000 then some (.set (sdd ns)) else none
    | none => none
  | _ => none
theorem cm_set (hK : X.K = g.K) (hw : X.w = g.w) (hc : X.calm = true) : CallM X g (.type "set") (pureF setD) := by
  refine .mk' (cr_setT hc) fun th mu H ds vs d o hd e Q q => ?_
  rw [hK, hw]
  unfold setD at e
  split at e
  · rename_i es
    split at e
    · rename_i ns hi
      split at e
      · rename_i hl
        cases (Option.some.inj e)
        obtain ⟨v, rfl, hv⟩ := rpL1 hd
        obtain ⟨a, xs, rfl, s1, r1, _⟩ := sqT_of hv
        rw [intsOf_eq r1 hi] at s1
        refine ⟨a, ns, rfl, s1, hl, fun p S hp hS => q _ _ (Evl.Ex.new hp) ⟨p, S, rfl, ?_, sdd_pw ns, fun k => (hS k).trans sdd_mem.symm⟩⟩
        unfold Gz
        rw [if_neg (o.new hp)]
        exact upd_same
      · cases e
    · cases e
  · cases e
/-- sorted(set) -/
def sortSetD (_ : Mu) : List D → Option D
  | [.set ns] => if ns.length < 64 then some (.lst (ns.map .int)) else none
  | _ => none
theorem cm_sortSet (hw : X.w = g.w) (hc : X.calm = true) : CallM X g (.builtin "sorted") (pureF sortSetD) := by
  refine .mk' (cr_sortedSet hc) fun th mu H ds vs d o hd e Q q => ?_
  rw [hw]
  unfold sortSetD at e
  split at e
  · rename_i ns
    split at e
    · rename_i hl
      cases (Option.some.inj e)
      obtain ⟨v, rfl, hv⟩ := rpL1 hd
      obtain ⟨a, S, rfl, s1, s2, s3⟩ := hv
      refine ⟨a, S, _, rfl, Gz_sub _ _ s1, hl, fun ms p h1 h2 h3 hp => ?_⟩
      have e1 : ms = ns := by
        rw [sdd_unique h1 (m := ns) fun k => (h2 k).trans (s3 k)]
        exact (sdd_unique s2 fun k => Iff.rfl).symm
      subst e1
      exact q _ _ (Evl.Ex.new hp) (rp_newLst o hp (map_int_rp ms))
    · cases e
  · cases e
/-- len(set) -/
def rLenSet (w : World) : List V → Hp → VK → Prop := fun vs H Q => ∃ a S n, vs = [V.ref a] ∧ H a = some (SetO w a S n) ∧ Q (.int (n : Int)) H
theorem scan_fit {n : Nat} (h : n < scanBound) : (n : Int) < 2 ^ 63 := by
  have : scanBound ≤ 2 ^ 62 := by decide
  omega
theorem cr_lenSet : CallR X (.builtin "len") (rLenSet X.w) := by
  intro pins s σ H vs us Q I r h
  obtain ⟨a, S, n, rfl, ha, q⟩ := h
  rw [Vals.ref1 r]
  obtain ⟨o, es, ep, t, ho, hex, hd, _, _, _, hb, hf, hn, _⟩ := setO_get I ha
  refine call_len_set ho hex hd hf (scan_fit hb) ?_
  rw [hn]
  exact ⟨.int n, H, I.tok _, ⟨_, rfl⟩, q⟩
def lenSetD (_ : Mu) : List D → Option D
  | [.set ns] => some (.int ns.length)
  | _ => none
theorem cm_lenSet (hw : X.w = g.w) : CallM X g (.builtin "len") (pureF lenSetD) := by
  refine .mk' cr_lenSet fun th mu H ds vs d o hd e Q q => ?_
  rw [hw]
  unfold lenSetD at e
  split at e
  · cases (Option.some.inj e)
    obtain ⟨v, rfl, hv⟩ := rpL1 hd
    obtain ⟨a, S, rfl, s1, _⟩ := hv
    exact ⟨a, S, _, rfl, Gz_sub _ _ s1, q _ H (fun _ _ z => z) rfl⟩
  · cases e
/-! ### sorted(tuple of ints) -/
theorem sorted_tupI {prog : Program} {w : World} {A : Around} {E : Value → Shared → Prop} {s : Shared} {a : Addr} {vs : List Value} {ns : List Int} {Q : Value → Shared → Prop} (ht : IsTup s.heap a vs.toArray) (hI : IntsAre vs ns) (h64 : vs.length < 64)
    (h : ∀ (h1 h' : Heap) (p : Addr) (out : Array Value) (c : Nat) (ms : List Int), (∀ b o, s.heap.get? b = some o → h1.get? b = some o) → (∀ b o, h1.get? b = some o → h'.get? b = some o) → h1.objs.size ≤ p → h'.get? p = some (seqObj "list" out c) → IntsAre out.toList ms → ms.Perm ns → ms.Pairwise (· ≤ ·) → Q (.ref p) { s with heap := h' }) :
    wpAny (model prog w) A (call (.builtin "sorted") [.ref a]) Q E s := by
  obtain ⟨o, ho, hc, n, hd⟩ := ht
  have hz : vs.length ≤ sizeLine := by rw [sizeLine_eq]; omega
  refine Calls.call_function_entry kind_sorted plain_sorted entry_sorted (args_sorted1 (.ref a)) ?_
  unfold Builtin.«sorted»
  refine wpAny_bind (m := checkCount _ 1 1 _) (wpAny_pure (wpAny_bind ?_))
  refine wpAny_collect_seq (it := a) (T := "tuple") (.inr rfl) ho hc hd (fun h1 k1 => ?_) (by rw [List.size_toArray]; exact hz)
  rw [List.toList_toArray]
  refine wpAny_bind (wpAny_newList ?_ hz)
  have hoL : (h1.push (seqObj "list" vs.toArray 0)).get? h1.objs.size = some (seqObj "list" vs.toArray 0) := Heap.get?_push_size h1 rfl
  refine wpAny_bind (wpAny_holding (wpAny_call_entry (ha := args_list_sort _) slot_list_sort ⟨_, hoL, rfl⟩ entry_list_sort ?_))
  refine list_sort_tree hoL hI h64 fun out ms b1 b2 b3 => ⟨_, rfl, wpAny_pure ⟨_, rfl, ?_⟩⟩
  obtain ⟨c, hc2⟩ := sortedHeap_at (vs := vs) (out := out) hoL
  refine h h1 _ h1.objs.size out c ms k1 (fun b u e => ?_) (Nat.le_refl _) hc2 b1 b2 b3
  have lb := Heap.lt_size e
  rw [sortedHeap_old (Nat.ne_of_lt lb) (Nat.lt_of_lt_of_le lb (by rw [size_push']; exact Nat.le_succ _))]
  exact Heap.get?_push_of_some _ e
def rSortTup (K : PySem.W.Frag) : List V → Hp → VK → Prop := fun vs H Q => ∃ (a : Addr) (ns : List Int), vs = [V.ref a] ∧ SqT K H a (ns.map V.int) ∧ ns.length < 64 ∧ ∀ p, H p = none → Q (.ref p) (upd H p (.lst ((srt ns).map V.int)))
theorem cr_sortTup : CallR X (.builtin "sorted") (rSortTup X.K) := by
  intro pins s σ H vs us Q I r h
  obtain ⟨a, ns, rfl, hs, h64, q⟩ := h
  obtain ⟨its, rv, ht, _⟩ := I.tuple hs
  rw [Vals.ref1 r]
  have hi : IntsAre its.toArray.toList ns := intsAre_of rv
  have hl := rv.length
  rw [List.length_map] at hl
  refine sorted_tupI ht hi (by omega) fun h1 h' p out c ms k1 k2 hp hg b1 b2 b3 => ?_
  have e : ms = srt ns := pw_unique (b2.trans (srt_perm ns).symm) b3 (srt_pw ns)
  subst e
  have I1 : Inv X pins σ H { s with heap := h1 } := I.kept (t' := s.toks) k1
  have hz : ((srt ns).map V.int).length ≤ sizeLine := by rw [List.length_map, (srt_perm ns).length_eq, sizeLine_eq]; omega
  exact ⟨.ref p, _, I1.laid (t' := s.toks) (o := .lst ((srt ns).map V.int)) k2 hp ⟨hz, out.toList, c, vals_of_ints b1, hg⟩, rfl, q p (I1.hok.fresh hp)⟩
def sortTupD (_ : Mu) : List D → Option D
  | [.tup ds] => match intsOf ds with
    | some ns => if ns.length < 64 then some (.lst ((srt ns).map .int)) else none
    | none => none
  | _ => none
theorem cm_sortTup (hK : X.K = g.K) : CallM X g (.builtin "sorted") (pureF sortTupD) := by
  refine .mk' cr_sortTup fun th mu H ds vs d o hd e Q q => ?_
  rw [hK]
  unfold sortTupD at e
  split at e
  · rename_i es
    split at e
    · rename_i ns hi
      split at e
      · rename_i hl
        cases (Option.some.inj e)
        obtain ⟨v, rfl, hv⟩ := rpL1 hd
        obtain ⟨a, xs, rfl, s1, r1, _⟩ := sqT_of hv
        rw [intsOf_eq r1 hi] at s1
        exact ⟨a, ns, rfl, s1, hl, fun p hp => q _ _ (Evl.Ex.new hp) (rp_newLst o hp (map_int_rp _))⟩
      · cases e
    · cases e
  · cases e
/-! ### isinstance with a built-in type -/
def tyName (mu : Mu) : D → Option String
  | .non => some "NoneType"
  | .bl _ => some "bool"
  | .int _ => some "int"
  | .str _ => some "str"
  | .tup _ => some "tuple"
  | x => (lstOf mu x).map fun _ => "list"
def isiD (mu : Mu) : List D → Option D
  | [x, .ty n] => (tyName mu x).bind fun t => (kitB t n).map .bl
  | _ => none
theorem cm_isi (hK : X.K = g.K) : CallM X g (.builtin "isinstance") (pureF isiD) := by
  refine .mk' call_isi fun th mu H ds vs d o hd e Q q => ?_
  rw [hK]
  unfold isiD at e
  split at e
  · rename_i x n
    obtain ⟨v, w, rfl, hv, hw⟩ := rpL2 hd
    cases ht : tyName mu x with
    | none => rw [ht] at e; cases e
    | some t =>
      rw [ht] at e
      have e : (kitB t n).map D.bl = some d := e
      cases hb : kitB t n with
      | none => rw [hb] at e; cases e
      | some b =>
        rw [hb] at e
        cases (Option.some.inj e)
        have hw : w = .ty n := hw
        subst hw
        refine ⟨v, .ty n, .type t, .type n, b, rfl, .ty n, ?_, kit_ty hb, q _ H (fun _ _ z => z) rfl⟩
        unfold tyName at ht
        split at ht
        · cases (Option.some.inj ht); rw [show v = .non from hv]; exact .base .non
        · cases (Option.some.inj ht); rw [show v = .bl _ from hv]; exact .base (.bl _)
        · cases (Option.some.inj ht); rw [show v = .int _ from hv]; exact .base (.int _)
        · cases (Option.some.inj ht); rw [show v = .str _ from hv]; exact .base (.str _)
        · cases (Option.some.inj ht)
          obtain ⟨a, xs, rfl, e2, e3⟩ := hv
          rcases e2 with e2 | e2
          · exact .base (.tup (Gz_sub _ _ e2))
          · rcases ex_t (Gz_sub (th := th) (mu := mu) (H := H)) e2.2.2 with (z | ⟨ob, z⟩) | ⟨ob, its, n, z1, z2, _⟩
            · exact .base (.tup z)
            · exact .fTuple z
            · exact .kTuple z1 z2
        · cases hl : lstOf mu x with
          | none => rw [hl] at ht; cases ht
          | some es =>
            rw [hl] at ht
            cases (Option.some.inj ht)
            obtain ⟨a, xs, rfl, s1, r1⟩ := lst_at o hv hl
            exact .base (.lst s1)
  · cases e
end
end Eb

/-! Eb: three comparisons in a row; a tuple once. -/
namespace Eb
open PySem PySem.Spec L2 PyProof.Rows
open Evl (Ex ex_l ex_t)
/-- a < b < c < d, each asked once -/
def mCh3 (f f' f2 : Mu → D → D → Option D) (ma mb mc md : ME) : ME := bindM ma fun x => bindM mb fun y => bindM (lift fun mu => (f mu x y).bind boolOf) fun k => if k = true then
    bindM mc fun z => bindM (lift fun mu => (f' mu y z).bind boolOf) fun k => if k = true then bindM md fun u => lift fun mu => f2 mu z u else retM (.bl false)
  else retM (.bl false)
def tChain3 (r r' r2 : R2) (ta tb tc td : TE) : TE := fun σ H Q => ta σ H fun x H1 => tb σ H1 fun y H2 => r x y H2 fun z H3 => ∃ k, z = .bl k ∧ if k = true then
    tc σ H3 fun u H4 => r' y u H4 fun z2 H5 => ∃ k2, z2 = .bl k2 ∧ if k2 = true then td σ H5 fun w H6 => r2 u w H6 Q else Q (.bl false) H5
  else Q (.bl false) H3
section
variable {X : Cx} {g : Gam} {W : WX} {a b c d : Expr} {pos : Pos} {ma mb mc md : ME} {ta tb tc td : TE} {o1 o2 o3 : CmpOp} {r r' r2 : R2} {f f' f2 : Mu → D → D → Option D}
theorem pe_chain3 (h1 : OpR X (compareOp o1) r) (h2 : OpR X (compareOp o2) r') (h3 : OpR X (compareOp o3) r2) (ha : PE X a ta) (hb : PE X b tb) (hc : PE X c tc) (hd : PE X d td)
    (hm : lastMarks [o1, o2, o3] [b, c, d] = false := by with_unfolding_all rfl) : PE X (.Compare a [o1, o2, o3] [b, c, d] pos) (tChain3 r r' r2 ta tb tc td) := by
  refine ⟨fun pins s σ H Q I h => ?_⟩
  refine Compare_chain (thn (ha.run pins s σ H _ I h) fun v s1 ⟨x, H1, I1, r1, q1⟩ => ?_) hm
  refine chain_link (thn (hb.run pins s1 σ H1 _ I1 q1) fun u s2 ⟨y, H2, I2, r2, q2⟩ => thn (h1 pins s2 σ H2 x y v u _ I2 r1 r2 q2) fun z s3 ⟨z', H3, I3, r3, k, e, q3⟩ => ?_)
  subst e; cases r3
  refine wpAny_truthy_bool ?_
  cases k with
  | false => exact ite_ff ⟨.bl false, H3, I3, rfl, q3⟩
  | true =>
    refine ite_tt (chain_link (thn (hc.run pins s3 σ H3 _ I3 q3) fun w s4 ⟨y2, H4, I4, r4, q4⟩ => thn (h2 pins s4 σ H4 y y2 u w _ I4 r2 r4 q4) fun z2 s5 ⟨z2', H5, I5, r5, k2, e2, q5⟩ => ?_))
    subst e2; cases r5
    refine wpAny_truthy_bool ?_
    cases k2 with
    | false => exact ite_ff ⟨.bl false, H5, I5, rfl, q5⟩
    | true => exact ite_tt (chain_last (thn (hd.run pins s5 σ H5 _ I5 q5) fun w2 s6 ⟨y3, H6, I6, r6, q6⟩ => h3 pins s6 σ H6 y2 y3 w w2 Q I6 r4 r6 q6))
theorem pt_chain3 (h1 : OpR X (compareOp o1) r) (h2 : OpR X (compareOp o2) r') (h3 : OpR X (compareOp o3) r2) (ha : PE X a ta) (hb : PE X b tb) (hc : PE X c tc) (hd : PE X d td)
    (hm : lastMarks [o1, o2, o3] [b, c, d] = false := by with_unfolding_all rfl) : PT X (.Compare a [o1, o2, o3] [b, c, d] pos) (tTest (tChain3 r r' r2 ta tb tc td)) := by
  refine ⟨fun pins s σ H Q I h => ?_⟩
  refine isTrue_chain (thn (ha.run pins s σ H _ I h) fun v s1 ⟨x, H1, I1, r1, q1⟩ => ?_) hm
  refine test_link (thn (hb.run pins s1 σ H1 _ I1 q1) fun u s2 ⟨y, H2, I2, r2, q2⟩ => thn (h1 pins s2 σ H2 x y v u _ I2 r1 r2 q2) fun z s3 ⟨z', H3, I3, r3, k, e, q3⟩ => ?_)
  subst e; cases r3
  refine wpAny_truthy_bool ?_
  cases k with
  | false =>
    obtain ⟨k', e', q'⟩ := q3
    cases e'
    exact ite_ff ⟨H3, I3, q'⟩
  | true =>
    refine ite_tt (test_link (thn (hc.run pins s3 σ H3 _ I3 q3) fun w s4 ⟨y2, H4, I4, r4, q4⟩ => thn (h2 pins s4 σ H4 y y2 u w _ I4 r2 r4 q4) fun z2 s5 ⟨z2', H5, I5, r5, k2, e2, q5⟩ => ?_))
    subst e2; cases r5
    refine wpAny_truthy_bool ?_
    cases k2 with
    | false =>
      obtain ⟨k', e', q'⟩ := q5
      cases e'
      exact ite_ff ⟨H5, I5, q'⟩
    | true =>
      refine ite_tt (test_last (thn (hd.run pins s5 σ H5 _ I5 q5) fun w2 s6 ⟨y3, H6, I6, r6, q6⟩ => thn (h3 pins s6 σ H6 y2 y3 w w2 _ I6 r4 r6 q6) fun z3 s7 ⟨z3', H7, I7, r7, k3, e3, q7⟩ => ?_))
      subst e3; cases r7
      exact wpAny_truthy_bool ⟨H7, I7, q7⟩
theorem lift_bool {f : Mu → D → D → Option D} {x y : D} {rh : Rho} {mu mu' : Mu} {s : Rs Bool} (e : (lift fun mu => (f mu x y).bind boolOf) rh mu = some (s, mu')) : ∃ k, f mu x y = some (.bl k) ∧ s = .ok k ∧ mu' = mu := by
  have e : Option.map (fun a => (Rs.ok a, mu)) ((f mu x y).bind boolOf) = some (s, mu') := e
  cases hf : f mu x y with
  | none => rw [hf] at e; cases e
  | some dk =>
    rw [hf] at e
    cases dk with
    | bl k =>
      cases (Option.some.inj e)
      exact ⟨k, rfl, rfl, rfl⟩
    | _ => cases e
theorem can_chain3 (hi : OpImp g r f) (hi' : OpImp g r' f') (hi2 : OpImp g r2 f2) {σ : L2.St} {H : Hp} {Q : VK} (h : canE g W (mCh3 f f' f2 ma mb mc md) σ H Q) : tChain3 r r' r2 (canE g W ma) (canE g W mb) (canE g W mc) (canE g W md) σ H Q := by
  refine can.imp (can_bind (R := RE g) h) fun x H1 ⟨dx, rh, mu1, th1, hx, r1, h1⟩ => ⟨rh, mu1, th1, r1, ?_⟩
  refine (canAt_bind (R := RE g) r1 h1).imp fun y H2 ⟨dy, mu2, th2, f2', hy, r2', h2⟩ => ?_
  obtain ⟨s, mu3, e3, q3⟩ := canAt_bind (R := RT) r2' h2
  obtain ⟨k, hf, rfl, rfl⟩ := lift_bool e3
  refine hi th2 mu3 H2 dx dy x y (.bl k) r2'.ok (hx.mono f2'.pf f2'.ex) hy hf _ fun w H3 ex hw => ⟨k, hw, ?_⟩
  obtain ⟨k', mu4, th4, f4, hk, r4, h4⟩ := q3 th2 k H3 (Fw.heap r2'.ok ex) rfl
  subst hk
  cases k' with
  | false => exact canAt_ret (R := RE g) r4 h4 th4 (.bl false) H3 (Fw.refl r4.ok) rfl
  | true =>
    refine ⟨rh, mu4, th4, r4, (canAt_bind (R := RE g) r4 h4).imp fun z H5 ⟨dz, mu5, th5, f5, hz, r5, h5⟩ => ?_⟩
    obtain ⟨s6, mu6, e6, q6⟩ := canAt_bind (R := RT) r5 h5
    obtain ⟨k2, hf2, rfl, rfl⟩ := lift_bool e6
    refine hi' th5 mu6 H5 dy dz y z (.bl k2) r5.ok (hy.mono (f4.trans f5).pf (f4.trans f5).ex) hz hf2 _ fun w2 H6 ex2 hw2 => ⟨k2, hw2, ?_⟩
    obtain ⟨k3, mu7, th7, f7, hk3, r7, h7⟩ := q6 th5 k2 H6 (Fw.heap r5.ok ex2) rfl
    subst hk3
    cases k3 with
    | false => exact canAt_ret (R := RE g) r7 h7 th7 (.bl false) H6 (Fw.refl r7.ok) rfl
    | true =>
      refine ⟨rh, mu7, th7, r7, (canAt_bind (R := RE g) r7 h7).imp fun u H8 ⟨du, mu8, th8, f8, hu, r8, h8⟩ => ?_⟩
      obtain ⟨d9, e9, q9⟩ := canAt_lift r8 h8
      exact hi2 th8 mu8 H8 dz du z u d9 r8.ok (hz.mono (f7.trans f8).pf (f7.trans f8).ex) hu e9 Q fun w' H' ex' hw' => q9 th8 w' H' (Fw.heap r8.ok ex') hw'
theorem pm_chain3 (h1 : OpM X g (compareOp o1) f) (h2 : OpM X g (compareOp o2) f') (h3 : OpM X g (compareOp o3) f2) (ha : PE X a (canE g W ma)) (hb : PE X b (canE g W mb)) (hc : PE X c (canE g W mc)) (hd : PE X d (canE g W md))
    (hm : lastMarks [o1, o2, o3] [b, c, d] = false := by with_unfolding_all rfl) : PE X (.Compare a [o1, o2, o3] [b, c, d] pos) (canE g W (mCh3 f f' f2 ma mb mc md)) := by
  obtain ⟨r, a1, b1⟩ := h1.ex
  obtain ⟨r', a2, b2⟩ := h2.ex
  obtain ⟨r2, a3, b3⟩ := h3.ex
  exact PEimp (pe_chain3 a1 a2 a3 ha hb hc hd hm) fun _ _ _ => can_chain3 b1 b2 b3
theorem pmt_chain3 (h1 : OpM X g (compareOp o1) f) (h2 : OpM X g (compareOp o2) f') (h3 : OpM X g (compareOp o3) f2) (ha : PE X a (canE g W ma)) (hb : PE X b (canE g W mb)) (hc : PE X c (canE g W mc)) (hd : PE X d (canE g W md))
    (hm : lastMarks [o1, o2, o3] [b, c, d] = false := by with_unfolding_all rfl) : PT X (.Compare a [o1, o2, o3] [b, c, d] pos) (canT g W (mTest (mCh3 f f' f2 ma mb mc md))) := by
  obtain ⟨r, a1, b1⟩ := h1.ex
  obtain ⟨r', a2, b2⟩ := h2.ex
  obtain ⟨r2, a3, b3⟩ := h3.ex
  exact PTimp (pt_chain3 a1 a2 a3 ha hb hc hd hm) fun _ _ _ h => can_chain3 b1 b2 b3 (can_test h)
end
/-! ### a tuple once is itself -/
theorem tuple_mul1 (l : Addr) (items : Array Value) (n : Nat) (dd : Option Addr) (sl : Array (Option Value)) (u : Tok) :
    Meets (Builtin.«tuple.__mul__» ⟨[.ref l, .int 1 u], []⟩) (fun _ R s => s.heap.get? l = some { cls := .type "tuple", dict := dd, data := .seq items n, slots := sl } ∧ R (.ok (.ret (Value.ref l))) s) :=
  .of_wp fun prog w A R s h => by
    obtain ⟨hp, g, d, tk, os⟩ := s
    obtain ⟨hl, h⟩ := h
    have f1 := AutoSeq1.idx_int
    wp_walk using wpAny_loadPart' hl
    exact ⟨_, rfl, h⟩
def rRepT1 (K : PySem.W.Frag) : R2 := fun x y H Q => ∃ l xs, x = .ref l ∧ y = .int 1 ∧ SqT K H l xs ∧ Q (.ref l) H
section
variable {X : Cx} {g : Gam}
theorem op_repT1 : OpR X (binaryOp .Mult) (rRepT1 X.K) := by
  intro pins s σ H x y v u Q I rx ry h
  obtain ⟨l, xs, rfl, rfl, hT, q⟩ := h
  cases rx
  obtain ⟨t, rfl⟩ := ry
  obtain ⟨its, r, ⟨⟨cls, dd, data, sl⟩, ho, hc, n, hd⟩, hs⟩ := I.tuple hT
  simp only at hc hd
  subst hc hd
  exact wpAny_binaryOp_repeat_ref (T := "tuple") (U := "int") (by decide) ⟨_, ho, rfl⟩ (fun s' => typeIs_int s' 1 t) noFill_tuple_mul F.fills_int_mul F.slot_int_rmul repeat_tuple F.slot_int_index.lookup
    (call_meets F.slot_int_rmul (typeIs_int s 1 t) F.entry_int_rmul (F.args_int_rmul_2 _ _) (int_rmul_tuple 1 t l its.toArray n dd sl)
      ⟨ho, rfl, ⟨_, ho, rfl⟩, call_meets F.slot_tuple_mul ⟨_, ho, rfl⟩ F.entry_tuple_mul (F.args_tuple_mul_2 _ _) (tuple_mul1 l its.toArray n dd sl t) ⟨ho, .ref l, H, I, rfl, q⟩⟩)
/-- a product, a tuple once too -/
def mul1D (mu : Mu) : D → D → Option D
  | .tup a, .int k => if k = 1 then some (.tup a) else mulD mu (.tup a) (.int k)
  | x, y => mulD mu x y
theorem om_mul1 (hK : X.K = g.K) : OpM X g (binaryOp .Mult) mul1D := by
  refine OpM.or (f1 := fun _ x y => match x, y with | .tup a, .int k => if k = 1 then some (.tup a) else none | _, _ => none) (.mk' op_repT1 fun th mu H x y v u d o hx hy e Q q => ?_) (om_mul hK) fun mu x y d e => ?_
  · split at e
    · split at e
      · rename_i hk
        subst hk
        cases (Option.some.inj e)
        obtain ⟨a1, xs, rfl, s1, r1, _⟩ := sqT_of hx
        exact ⟨a1, xs, rfl, hy, by rw [hK]; exact s1, q _ H (fun _ _ z => z) hx⟩
      · cases e
    · cases e
  · unfold mul1D at e
    split at e
    · rename_i a k
      by_cases hk : k = 1
      · rw [if_pos hk] at e
        exact .inl (by rw [if_pos hk]; exact e)
      · rw [if_neg hk] at e
        exact .inr e
    · exact .inr e
end
end Eb

/-! Eb: defs whose cells stay with them. -/
namespace Eb
open PySem L2
open Evl (Ex ex_l ex_t)
mutual
/-- no cell within -/
def cf : D → Bool
  | .tup ds => cfL ds
  | .lst ds => cfL ds
  | .ins _ ds => cfL ds
  | .cel _ => false
  | .non => true
  | .bl _ => true
  | .int _ => true
  | .str _ => true
  | .set _ => true
  | .scr _ => true
  | .ty _ => true
  | .cls _ => true
  | .dic _ ds => cfL ds
  | .exn _ _ => false
def cfL : List D → Bool
  | [] => true
  | d :: ds => cf d && cfL ds
end
mutual
theorem Rp.cfree {g : Gam} {th th' : Th} {G : Hp} : ∀ (d : D) (v : V), cf d = true → Rp g th G d v → Rp g th' G d v
  | .non, v, _, h => h
  | .bl _, v, _, h => h
  | .int _, v, _, h => h
  | .str _, v, _, h => h
  | .tup ds, v, c, h => by
    obtain ⟨a, xs, e1, e2, e3⟩ := h
    exact ⟨a, xs, e1, e2, RpL.cfree ds xs c e3⟩
  | .lst ds, v, c, h => by
    obtain ⟨a, xs, e1, e2, e3⟩ := h
    exact ⟨a, xs, e1, e2, RpL.cfree ds xs c e3⟩
  | .ins k ds, v, c, h => by
    obtain ⟨a, dx, ys, xs, e1, e2, e3, e4, e5⟩ := h
    exact ⟨a, dx, ys, xs, e1, e2, e3, e4, RpL.cfree ds xs c e5⟩
  | .set ns, v, _, h => h
  | .cel k, v, c, h => by cases c
  | .scr ns, v, _, h => h
  | .ty _, v, _, h => h
  | .cls _, v, _, h => h
  | .dic ks ds, v, c, h => by
    obtain ⟨a, o, xs, e1, e2, e3, e4, e5, e6⟩ := h
    exact ⟨a, o, xs, e1, e2, e3, e4, e5, RpL.cfree ds xs c e6⟩
  | .exn _ _, v, c, h => by cases c
theorem RpL.cfree {g : Gam} {th th' : Th} {G : Hp} : ∀ (ds : List D) (vs : List V), cfL ds = true → RpL g th G ds vs → RpL g th' G ds vs
  | [], vs, _, h => h
  | d :: ds, vs, c, h => by
    obtain ⟨v, r, e1, e2, e3⟩ := h
    have c : (cf d && cfL ds) = true := c
    rw [Bool.and_eq_true] at c
    exact ⟨v, r, e1, Rp.cfree d v c.1 e2, RpL.cfree ds r c.2 e3⟩
end
def cfR : Rs D → Bool
  | .ok d => cf d
  | .er x => cfL x.fs
/-- a def that is handed no cell and hands none back: its own cells are forgotten -/
def mPure (f : Phi) : Phi := fun ds mu => if cfL ds = true then match f ds [] with
    | some (r, _) => if cfR r = true then some (r, mu) else none
    | none => none
  else none
/-- all cells hidden -/
def hideAll (th : Th) (mu : Mu) : Th := ⟨[], own th.ids mu ++ th.hid⟩
section
variable {g : Gam} {th th1 : Th} {mu mu1 : Mu} {H H1 : Hp}
theorem gz_hideAll : Gz (hideAll th mu) [] H = Gz th mu H := by
  funext a
  unfold Gz hideAll
  by_cases m : a ∈ own th.ids mu ∨ a ∈ th.hid
  · rw [if_pos m, if_pos (.inr (List.mem_append.mpr m))]
  · rw [if_neg m, if_neg]
    rintro (z | z)
    · simp [own] at z
    · exact m (List.mem_append.mp z)
theorem ok_hideAll (o : Ok g th mu H) : Ok g (hideAll th mu) [] H := ⟨rfl, List.nodup_nil, fun i a c e _ => by simp [hideAll] at e, fun a m => ⟨by simp [hideAll, own], by
  rcases List.mem_append.mp m with m | m
  · exact o.solid m
  · exact (o.hid a m).2⟩⟩
theorem gz_back (h : ∀ a, a ∈ own th.ids mu ∨ a ∈ th.hid → a ∈ own th1.ids mu1 ∨ a ∈ th1.hid) : Ex (Gz th1 mu1 H1) (Gz th mu H1) := fun a u q => by
  unfold Gz at q ⊢
  by_cases m : a ∈ own th1.ids mu1 ∨ a ∈ th1.hid
  · rw [if_pos m] at q; cases q
  · rw [if_neg m] at q
    rw [if_neg fun z => m (h a z)]
    exact q
/-- the caller's cells are as they were -/
theorem fw_hideAll (o : Ok g th mu H) (f : Fw g (hideAll th mu) [] H th1 mu1 H1) : Fw g th mu H th mu H1 ∧ Ex (Gz th1 mu1 H1) (Gz th mu H1) := by
  have eb : Ex (Gz th1 mu1 H1) (Gz th mu H1) := gz_back fun a m => .inr (by rw [f.pf.hid]; exact List.mem_append.mpr m)
  have ex : Ex (Gz th mu H) (Gz th mu H1) := by
    have q := f.ex
    rw [gz_hideAll] at q
    exact q.trans eb
  have hd : ∀ a, a ∈ own th.ids mu ∨ a ∈ th.hid → H1 a = H a := fun a m => f.hd a (List.mem_append.mpr m)
  refine ⟨⟨Pfx.refl, ⟨o.len, o.nod, fun i a c e1 e2 => ?_, fun a m => ?_⟩, ex, fun a m => hd a (.inr m)⟩, eb⟩
  · by_cases l : c.live = true
    · exact (o.cel i a c e1 e2).mono Pfx.refl ex (hd a (.inl (own_mem.mpr ⟨i, c, e1, e2, l⟩)))
    · cases c with
      | dead => trivial
      | _ => exact absurd rfl l
  · obtain ⟨n, u, hu, su⟩ := o.hid a m
    exact ⟨n, u, by rw [hd a (.inr m)]; exact hu, su⟩
theorem RpX.cfree {G : Hp} {x : Exn} {cls : Value} {dd : Option Addr} (c : cfL x.fs = true) (h : RpX g th G x cls dd) : RpX g th1 G x cls dd := by
  obtain ⟨e, h | ⟨da, ys, xs, e1, e2, e3, e4⟩⟩ := h
  · exact ⟨e, .inl h⟩
  · exact ⟨e, .inr ⟨da, ys, xs, e1, e2, e3, RpL.cfree _ _ c e4⟩⟩
theorem RpX.mono {G G' : Hp} {x : Exn} {cls : Value} {dd : Option Addr} (ex : Ex G G') (h : RpX g th G x cls dd) : RpX g th G' x cls dd := by
  obtain ⟨e, h | ⟨da, ys, xs, e1, e2, e3, e4⟩⟩ := h
  · exact ⟨e, .inl h⟩
  · exact ⟨e, .inr ⟨da, ys, xs, e1, ex _ _ e2, e3, RpL.mono Pfx.refl ex _ _ e4⟩⟩
theorem spM_pure {f : Phi} {vs : List V} {Q : VK} {E : XK} (h : spM g (mPure f) vs H Q E) : spM g f vs H Q E := by
  obtain ⟨ds, mu, th, r, mu', o, hd, e, q⟩ := h
  unfold mPure at e
  split at e
  · rename_i hc
    split at e
    · rename_i r' mu1 hf
      split at e
      · rename_i hr
        cases (Option.some.inj e)
        refine ⟨ds, [], hideAll th mu, r, mu1, ok_hideAll o, by rw [gz_hideAll]; exact RpL.cfree _ _ hc hd, hf, ?_⟩
        cases r with
        | ok d =>
          intro th' v H' fw hv
          obtain ⟨f1, ex⟩ := fw_hideAll o fw
          exact q th v H' f1 ((Rp.cfree (th' := th) d v hr hv).mono Pfx.refl ex)
        | er x =>
          intro th' cls dd H' fw hx
          obtain ⟨f1, ex⟩ := fw_hideAll o fw
          exact q th cls dd H' f1 ((hx.cfree (th1 := th) hr).mono ex)
      · cases e
    · cases e
  · cases e
theorem FnOk.pure {P : Program} {w : World} {K : PySem.W.Frag} {mg : Str → Option Value} {base : Heap} {CX : CXT} {k : Nat} {f : Addr} {fd : FuncData} {ps : List Str} {ph : Phi} (F : FnOk P w K mg base CX k f fd ps (spM g ph)) : FnOk P w K mg base CX k f fd ps (spM g (mPure ph)) :=
  F.imp fun _ _ _ _ h => spM_pure h
/-! ### defs that are handed one cell, first -/
def cfC : Cell → Bool
  | .lst ds => cfL ds
  | _ => false
def mRow (f : Phi) : Phi := fun ds mu => match ds with
  | .cel k :: rest => match mu[k]? with
    | some c => if cfL rest = true ∧ cfC c = true then match f (.cel 0 :: rest) [c] with
        | some (r, c' :: _) => if cfR r = true ∧ cfC c' = true then some (r, mu.set k c') else none
        | _ => none
      else none
    | none => none
  | _ => none
/-- all cells hidden but that at a -/
def hideBut (th : Th) (mu : Mu) (a : Addr) : Th := ⟨[a], (own th.ids mu).filter (fun b => decide (b ≠ a)) ++ th.hid⟩
theorem cfC_live {c : Cell} (h : cfC c = true) : c.live = true := by
  cases c with
  | lst ds => rfl
  | _ => cases h
theorem mem_hideBut {a b : Addr} {k : Nat} {c : Cell} (ha : th.ids[k]? = some a) (hc : mu[k]? = some c) (l : c.live = true) {c' : Cell} (l' : c'.live = true) {more : Mu} {ids : List Addr} : (b ∈ own th.ids mu ∨ b ∈ th.hid) ↔ (b ∈ own [a] [c'] ∨ b ∈ (hideBut th mu a).hid) := by
  have ma : a ∈ own th.ids mu := own_mem.mpr ⟨k, c, ha, hc, l⟩
  have eo : own [a] [c'] = [a] := by simp [own, l']
  rw [eo]
  unfold hideBut
  simp only [List.mem_append, List.mem_filter, decide_eq_true_eq, List.mem_singleton]
  by_cases hb : b = a
  · subst hb; simp [ma]
  · simp [hb]
theorem gz_hideBut {a : Addr} {k : Nat} {c : Cell} (ha : th.ids[k]? = some a) (hc : mu[k]? = some c) (l : c.live = true) : Gz (hideBut th mu a) [c] H = Gz th mu H := by
  funext b
  unfold Gz
  have q : (b ∈ own th.ids mu ∨ b ∈ th.hid) ↔ (b ∈ own (hideBut th mu a).ids [c] ∨ b ∈ (hideBut th mu a).hid) := mem_hideBut (b := b) (more := []) (ids := []) ha hc l l
  by_cases m : b ∈ own th.ids mu ∨ b ∈ th.hid
  · rw [if_pos m, if_pos (q.mp m)]
  · rw [if_neg m, if_neg fun z => m (q.mpr z)]
theorem CellOk.cfree {G : Hp} {a : Addr} {c : Cell} (h : cfC c = true) (x : CellOk g th G H a c) : CellOk g th1 G H a c := by
  cases c with
  | lst ds =>
    obtain ⟨xs, e1, e2⟩ := x
    exact ⟨xs, e1, RpL.cfree _ _ h e2⟩
  | _ => cases h
theorem ok_hideBut (o : Ok g th mu H) {a : Addr} {k : Nat} {c : Cell} (ha : th.ids[k]? = some a) (hc : mu[k]? = some c) (hf : cfC c = true) : Ok g (hideBut th mu a) [c] H := by
  have l := cfC_live hf
  have ma : a ∈ own th.ids mu := own_mem.mpr ⟨k, c, ha, hc, l⟩
  have eo : own (hideBut th mu a).ids [c] = [a] := by simp [hideBut, own, l]
  refine ⟨rfl, by rw [eo]; simp, fun i b d e1 e2 => ?_, fun b m => ?_⟩
  · cases i with
    | zero =>
      have q1 : a = b := by simpa [hideBut] using e1
      have q2 : c = d := by simpa using e2
      subst q1 q2
      rw [gz_hideBut ha hc l]
      exact CellOk.cfree hf (o.cel k a c ha hc)
    | succ i => simp at e2
  · rw [eo]
    have m : b ∈ (own th.ids mu).filter (fun b => decide (b ≠ a)) ++ th.hid := m
    rcases List.mem_append.mp m with m | m
    · obtain ⟨m1, m2⟩ := List.mem_filter.mp m
      exact ⟨by simpa using m2, o.solid m1⟩
    · obtain ⟨n, u⟩ := o.hid b m
      exact ⟨fun z => n (by rw [List.mem_singleton.mp z]; exact ma), u⟩
theorem spM_row {f : Phi} {vs : List V} {Q : VK} {E : XK} (h : spM g (mRow f) vs H Q E) : spM g f vs H Q E := by
  obtain ⟨ds, mu, th, r, mu', o, hd, e, q⟩ := h
  unfold mRow at e
  split at e
  · rename_i k rest
    split at e
    · rename_i c hc
      split at e
      · rename_i hcf
        split at e
        · rename_i r' c' more hf
          split at e
          · rename_i hr
            cases (Option.some.inj e)
            obtain ⟨v0, vr, rfl, ⟨a, ea, ha⟩, hd2⟩ := hd
            have l := cfC_live hcf.2
            have l' := cfC_live hr.2
            have back : ∀ th' H', Fw g (hideBut th mu a) [c] H th' (c' :: more) H' → Fw g th mu H th (mu.set k c') H' ∧ Ex (Gz th' (c' :: more) H') (Gz th (mu.set k c') H') := fun th' H' fw => by
              obtain ⟨ids, ei⟩ := fw.pf.ids
              have ei : th'.ids = a :: ids := ei
              have eo : own th.ids (mu.set k c') = own th.ids mu := own_set_live hc (l.trans l'.symm)
              have am : a ∈ own th'.ids (c' :: more) := own_mem.mpr ⟨0, c', by rw [ei]; rfl, rfl, l'⟩
              have hm : ∀ b, b ∈ own th.ids (mu.set k c') ∨ b ∈ th.hid → b ∈ own th'.ids (c' :: more) ∨ b ∈ th'.hid := fun b m => by
                rw [eo] at m
                rw [fw.pf.hid]
                rcases (mem_hideBut (b := b) (more := []) (ids := []) ha hc l l').mp m with z | z
                · have : b = a := by simpa [own, l'] using z
                  subst this
                  exact .inl am
                · exact .inr z
              have eb : Ex (Gz th' (c' :: more) H') (Gz th (mu.set k c') H') := gz_back hm
              have ex : Ex (Gz th mu H) (Gz th (mu.set k c') H') := by
                have z := fw.ex
                rw [gz_hideBut ha hc l] at z
                exact z.trans eb
              have hh : ∀ b, b ∈ own th.ids mu ∨ b ∈ th.hid → b ≠ a → H' b = H b := fun b m nb => by
                refine fw.hd b ?_
                rcases (mem_hideBut (b := b) (more := []) (ids := []) ha hc l l').mp m with z | z
                · have : b = a := by simpa [own, l'] using z
                  exact absurd this nb
                · exact z
              have na : ∀ b ∈ th.hid, b ≠ a := fun b m z => (o.hid b m).1 (by rw [z]; exact own_mem.mpr ⟨k, c, ha, hc, l⟩)
              refine ⟨⟨Pfx.refl, ⟨by simp [o.len], by rw [eo]; exact o.nod, fun i b d e1 e2 => ?_, fun b m => ?_⟩, ex, fun b m => hh b (.inr m) (na b m)⟩, eb⟩
              · by_cases hi : i = k
                · subst hi
                  rw [ha] at e1
                  cases e1
                  have : c' = d := by
                    rw [List.getElem?_set_self ((List.getElem?_eq_some_iff.mp hc).1)] at e2
                    exact Option.some.inj e2
                  subst this
                  have z := fw.ok.cel 0 a c' (by rw [ei]; rfl) rfl
                  exact CellOk.cfree (th := th') hr.2 (z.mono Pfx.refl eb rfl)
                · rw [List.getElem?_set_ne (Ne.symm hi)] at e2
                  by_cases ld : d.live = true
                  · have nb : b ≠ a := by
                      rintro rfl
                      exact hi (own_inj o.nod e1 ha e2 hc ld l)
                    exact (o.cel i b d e1 e2).mono Pfx.refl ex (hh b (.inl (own_mem.mpr ⟨i, d, e1, e2, ld⟩)) nb)
                  · cases d with
                    | dead => trivial
                    | _ => exact absurd rfl ld
              · obtain ⟨n, u, hu, su⟩ := o.hid b m
                exact ⟨by rw [eo]; exact n, u, by rw [hh b (.inr m) (na b m)]; exact hu, su⟩
            refine ⟨.cel 0 :: rest, [c], hideBut th mu a, r, c' :: more, ok_hideBut o ha hc hcf.2, ⟨v0, vr, rfl, ⟨a, ea, rfl⟩, by rw [gz_hideBut ha hc l]; exact RpL.cfree _ _ hcf.1 hd2⟩, hf, ?_⟩
            cases r with
            | ok d =>
              intro th' v H' fw hv
              obtain ⟨f1, ex⟩ := back th' H' fw
              exact q th v H' f1 ((Rp.cfree (th' := th) d v hr.1 hv).mono Pfx.refl ex)
            | er x =>
              intro th' cls dd H' fw hx
              obtain ⟨f1, ex⟩ := back th' H' fw
              exact q th cls dd H' f1 ((hx.cfree (th1 := th) hr.1).mono ex)
          · cases e
        · cases e
      · cases e
    · cases e
  · cases e
theorem FnOk.row {P : Program} {w : World} {K : PySem.W.Frag} {mg : Str → Option Value} {base : Heap} {CX : CXT} {k : Nat} {f : Addr} {fd : FuncData} {ps : List Str} {ph : Phi} (F : FnOk P w K mg base CX k f fd ps (spM g ph)) : FnOk P w K mg base CX k f fd ps (spM g (mRow ph)) :=
  F.imp fun _ _ _ _ h => spM_row h
end
end Eb

/-! Eb: defs of the text, what their callers ask of them. -/
namespace Eb
open PySem L2
open Evl (Ex ex_l ex_t)
/-- the own classes' attributes: 0 House, 1 Search, 2 BadHouse, 3 BadStep, 4 Barred, 5 Left, 6 BadText, 7 BookError -/
def fldsT : Nat → List Str
  | 0 => ["zones", "hours", "kept_doors", "kept_people"]
  | 1 => ["house", "hour", "rows", "by"]
  | 2 => ["number", "word"]
  | 4 => ["at", "number", "rule"]
  | 5 => ["number"]
  | 6 => ["row"]
  | _ => []
abbrev gam (P : Program) (w : World) (K : PySem.W.Frag) (cls : Nat → Addr) : Gam := ⟨P, w, K, cls, fldsT, none⟩
/-- a def stands in the text -/
structure DefAt (K : PySem.W.Frag) (mg : Str → Option Value) (x : Str) (st : Stmt) (ps : List Str) : Prop where
  ex : ∃ f fd, mg x = some (.ref f) ∧ PySem.W.keepIn K (.ref f) = true ∧ Fun K x x st f fd ∧ Binds K fd ps []
/-- a method, an __init__ -/
structure MethAt (K : PySem.W.Frag) (C : Addr) (x qual : Str) (st : Stmt) (ps : List Str) : Prop where
  ex : ∃ f fd, Meth K C x f ∧ Fun K x qual st f fd ∧ Binds K fd ps []
structure InitAt (K : PySem.W.Frag) (C : Addr) (qual : Str) (st : Stmt) (ps : List Str) : Prop where
  ex : ∃ f fd, L2.Mk K C f ∧ Fun K "__init__" qual st f fd ∧ Binds K fd ps []
/-- a class and its attributes, none of them a name of the class -/
structure ClsT (K : PySem.W.Frag) (C : Addr) (fs : List Str) : Prop where
  cl : Cls K C
  na : ∀ f ∈ fs, NoAttr K C f
/-- a def keeps its promise -/
structure Cal (P : Program) (w : World) (K : PySem.W.Frag) (mg : Str → Option Value) (base : Heap) (cls : Nat → Addr) (x : Str) (k : Nat) (ps : List Str) (ph : Phi) : Prop where
  ex : ∃ f fd, mg x = some (.ref f) ∧ PySem.W.keepIn K (.ref f) = true ∧ Binds K fd ps [] ∧ FnOk P w K mg base (L2.CX P w) k f fd ps (spM (gam P w K cls) ph)
structure MCal (P : Program) (w : World) (K : PySem.W.Frag) (mg : Str → Option Value) (base : Heap) (cls : Nat → Addr) (c : Nat) (x : Str) (k : Nat) (ps : List Str) (ph : Phi) : Prop where
  ex : ∃ f fd, Meth K (cls c) x f ∧ Binds K fd ps [] ∧ FnOk P w K mg base (L2.CX P w) k f fd ps (spM (gam P w K cls) ph)
structure ICal (P : Program) (w : World) (K : PySem.W.Frag) (mg : Str → Option Value) (base : Heap) (cls : Nat → Addr) (c : Nat) (k : Nat) (ps : List Str) (ph : Phi) : Prop where
  ex : ∃ f fd, L2.Mk K (cls c) f ∧ Binds K fd ps [] ∧ FnOk P w K mg base (L2.CX P w) k f fd ps (spM (gam P w K cls) ph)
section
variable {P : Program} {w : World} {K : PySem.W.Frag} {mg : Str → Option Value} {base : Heap} {cls : Nat → Addr} {k : Nat} {ps : List Str} {ph : Phi} {x : Str}
theorem Cal.pure (h : Cal P w K mg base cls x k ps ph) : Cal P w K mg base cls x k ps (mPure ph) := by
  obtain ⟨f, fd, h1, h2, h3, h4⟩ := h.ex
  exact ⟨f, fd, h1, h2, h3, Eb.FnOk.pure h4⟩
theorem Cal.row (h : Cal P w K mg base cls x k ps ph) : Cal P w K mg base cls x k ps (mRow ph) := by
  obtain ⟨f, fd, h1, h2, h3, h4⟩ := h.ex
  exact ⟨f, fd, h1, h2, h3, Eb.FnOk.row h4⟩
theorem MCal.pure {c : Nat} (h : MCal P w K mg base cls c x k ps ph) : MCal P w K mg base cls c x k ps (mPure ph) := by
  obtain ⟨f, fd, h1, h2, h3⟩ := h.ex
  exact ⟨f, fd, h1, h2, Eb.FnOk.pure h3⟩
/-- the end of a def whose outcome is known to be no exception -/
def spM0 (g : Gam) (f : Phi) : Sp := fun vs H Q _ => ∃ ds mu th d mu', Ok g th mu H ∧ RpL g th (Gz th mu H) ds vs ∧ f ds mu = some (.ok d, mu') ∧ ∀ th' v H', Fw g th mu H th' mu' H' → Rp g th' (Gz th' mu' H') d v → Q v H'
theorem okL {g : Gam} {x qual : Str} {st : Stmt} {f : Addr} {fd : FuncData} {N ps : List Str} {k np n : Nat} {b : MS} (F : Fun K x qual st f fd) (S : FnScope N ps (defScope st)) (hN : N.length = n) (hps : ps.length = np) (hnp : np ≤ n)
    (h : ∀ (cdv : Value) (A : Around) (outer : List Env) (s : Shared) (H : Hp) (E : XK), Room k (A.deeper (PyProof.Rows.envOfC qual (defScope st) s.heap.objs.size f cdv)) →
      PSs (cxOf CX0 P w K mg base N qual (defScope st) f cdv A outer s H E).nox (defBody st) (canS g W0 b)) : FnOk P w K mg base CX0 (k + 1) f fd ps (spM0 g (mBody np n b)) := by
  refine F.ok S (fun vs H Q E ⟨ds, mu, th, r, mu', o, hd, e, _⟩ => by rw [hps, hd.length]; exact mBody_len e) fun cdv A outer s H vs Q E hr hs => ⟨_, h cdv A outer s H E hr, ?_⟩
  obtain ⟨ds, mu, th, d, mu', o, hd, e, q⟩ := hs
  have hl := mBody_len e
  unfold mBody at e
  rw [if_pos hl] at e
  have rl := start_rl (N := N) o hd hl (by rw [hN]; exact hnp)
  rw [hN] at rl
  refine ⟨_, mu, th, rl, ?_⟩
  split at e
  · rename_i r' mu1 he
    cases (Option.some.inj e)
    exact ⟨_, _, he, fun th' σ' H' f _ => q th' .non H' f rfl⟩
  · rename_i d mu1 he
    cases (Option.some.inj e)
    exact ⟨_, _, he, fun th' v H' f hv => q th' v H' f hv⟩
  · rename_i x r' mu1 he
    cases (Option.some.inj e)
  · cases e
theorem ClsT.ok {P : Program} {w : World} {K : PySem.W.Frag} {cls : Nat → Addr} {c : Nat} (T : ClsT K (cls c) (fldsT c)) (h : c < 8) : ClsOk (gam P w K cls) c := by
  have h1 : (fldsT c).Nodup ∧ (fldsT c).length < 1000 := by
    rcases c with _ | _ | _ | _ | _ | _ | _ | _ | c <;> first | exact ⟨by decide +kernel, by decide +kernel⟩ | omega
  exact ⟨T.cl, h1.1, T.na, h1.2⟩
theorem bt_len : bootBuiltins "len" = some (.builtin "len") := by decide +kernel
theorem bt_list : bootBuiltins "list" = some (.type "list") := by decide +kernel
theorem bt_tuple : bootBuiltins "tuple" = some (.type "tuple") := by decide +kernel
theorem bt_sum : bootBuiltins "sum" = some (.builtin "sum") := by decide +kernel
theorem bt_int : bootBuiltins "int" = some (.type "int") := by decide +kernel
theorem bt_str : bootBuiltins "str" = some (.type "str") := by decide +kernel
theorem bt_set : bootBuiltins "set" = some (.type "set") := by decide +kernel
theorem bt_sorted : bootBuiltins "sorted" = some (.builtin "sorted") := by decide +kernel
theorem bt_min : bootBuiltins "min" = some (.builtin "min") := by decide +kernel
theorem bt_max : bootBuiltins "max" = some (.builtin "max") := by decide +kernel
theorem bt_isi : bootBuiltins "isinstance" = some (.builtin "isinstance") := by decide +kernel
theorem bt_dict : bootBuiltins "dict" = some (.type "dict") := by decide +kernel
/-- an int, a text, the tuple ("wait",) of the top -/
structure GInt (mg : Str → Option Value) (x : Str) (i : Int) : Prop where
  ex : ∃ t, mg x = some (.int i t)
structure GStr (mg : Str → Option Value) (x : Str) (z : Str) : Prop where
  ex : ∃ t, mg x = some (.str z t)
structure GWait (K : PySem.W.Frag) (mg : Str → Option Value) (x : Str) : Prop where
  ex : ∃ a o its n, mg x = some (.ref a) ∧ K.lookup a = some o ∧ o.cls = .type "tuple" ∧ o.data = .seq its n ∧ its.size ≤ sizeLine ∧ Vals [.str "wait"] its.toList
end
section
variable {X : Cx} {g : Gam} {W : WX} {x : Str} {pos : Pos}
theorem pm_gint {i : Int} (h : GInt X.mg x i) (hg : Gl X x := by rfl) (hd : (x == ("__debug__" : Str)) = false := by decide) : PE X (.Name x pos) (canE g W (mC (.int i))) := by
  obtain ⟨t, e⟩ := h.ex
  exact pm_glob (v := .int i) (fun _ _ => rfl) e ⟨t, rfl⟩ hg hd
theorem pm_gstr {z : Str} (h : GStr X.mg x z) (hg : Gl X x := by rfl) (hd : (x == ("__debug__" : Str)) = false := by decide) : PE X (.Name x pos) (canE g W (mC (.str z))) := by
  obtain ⟨t, e⟩ := h.ex
  exact pm_glob (v := .str z) (fun _ _ => rfl) e ⟨t, rfl⟩ hg hd
theorem pm_gwait (hK : X.K = g.K) (h : GWait X.K X.mg x) (hg : Gl X x := by rfl) (hd : (x == ("__debug__" : Str)) = false := by decide) : PE X (.Name x pos) (canE g W (mC (.tup [.str "wait"]))) := by
  obtain ⟨a, o, its, n, e, h1, h2, h3, h4, h5⟩ := h.ex
  refine pm_glob (v := .ref a) (fun th G => ⟨a, _, rfl, .inr ⟨rfl, rfl, ?_⟩, .str "wait", [], rfl, rfl, rfl⟩) e rfl hg hd
  rw [← hK]
  exact .inr ⟨o, its, n, h1, h2, h3, h4, h5⟩
/-- a built-in class as a value -/
theorem pm_bty {n : String} (hm : X.mg x = none) (hv : bootBuiltins x = some (.type n)) (hg : Gl X x := by rfl) (hn : x ≠ "__name__" := by decide) (hd : (x == ("__debug__" : Str)) = false := by decide) : PE X (.Name x pos) (canE g W (mC (.ty n))) :=
  PEimp (pe_bltn (v := .ty n) hg hm hv rfl hn hd) fun _ _ _ => can_c (d := .ty n) fun _ _ => rfl
end
end Eb
namespace Eb
open PySem L2
open Evl (Ex ex_l ex_t)
/-! ### lists that are made to be changed; a list that is changed no more -/
def mLstC (mr : M (List D)) : ME := bindM mr fun ds _ mu => (few ds).map fun es => (.ok (.cel mu.length), mu ++ [.lst es])
/-- the name in slot i holds a cell: its content is a value from now on -/
def sFrz (i : Nat) : MS := fun rh mu => match rh[i]? with
  | some (some d) => (frzD d mu).map fun p => (.nx (rh.set i (some p.1)), p.2)
  | _ => none
def sNever : MS := fun _ _ => none
section
variable {X : Cx} {g : Gam} {W : WX} {pos : Pos} {es : List Expr} {mr : M (List D)} {st : Stmt} {rest : List Stmt} {sb : MS}
theorem pm_lstC (h : PA X es (canA g W mr)) : PE X (.List es pos) (canE g W (mLstC mr)) :=
  PEimp (pe_lst h) fun σ H Q h => (can_bind (R := RA g) h).imp fun xs H1 ⟨ds, rh, mu1, th1, hx, r1, s, mu', e, q⟩ => by
    have e9 : (few ds).map (fun es => ((Rs.ok (.cel mu1.length) : Rs D), mu1 ++ [.lst es])) = some (s, mu') := e
    clear e
    cases hf : few ds with
    | none => rw [hf] at e9; cases e9
    | some es =>
      rw [hf] at e9
      obtain ⟨rfl, hl⟩ := few_eq hf
      cases (Option.some.inj e9)
      refine ⟨Evl.sz_of (by rw [hx.length]; exact hl), fun p hp => ?_⟩
      obtain ⟨f, hr⟩ := cell_new r1.ok hp hx
      exact q _ _ _ f hr
theorem pms_frz (i : Nat) (h : PSs X rest (canS g W sb)) : PSs X rest (canS g W (sSeq (sFrz i) sb)) :=
  PSsimp h fun Dn σ H hh => by
    obtain ⟨rh, mu, th, r, k, mu1, e, hk⟩ := can_seq hh
    unfold sFrz at e
    split at e
    · rename_i d hd
      cases hf : frzD d mu with
      | none => rw [hf] at e; cases e
      | some p =>
        obtain ⟨d', mu2⟩ := p
        rw [hf] at e
        cases (Option.some.inj e)
        obtain ⟨v, e1, e2⟩ := r.slt i d hd
        obtain ⟨f, hv⟩ := frz_ok r.ok e2 hf
        have r2 := r.fw f
        refine hk th σ H f ⟨r2.ok, by simp [r.len], fun j d2 e3 => ?_⟩
        by_cases hj : j = i
        · subst hj
          rw [List.getElem?_set_self ((List.getElem?_eq_some_iff.mp hd).1)] at e3
          cases (Option.some.inj (Option.some.inj e3))
          exact ⟨v, e1, hv⟩
        · rw [List.getElem?_set_ne (Ne.symm hj)] at e3
          exact r2.slt j d2 e3
    · cases e
theorem pm_never : PS X st (canS g W sNever) := PSimp ps_never fun Dn σ H ⟨rh, mu, th, r, o, mu', e, _⟩ => by cases e
end
end Eb
namespace Eb
open PySem L2
/-- law's promise: a list of at most 63 ints is handed in, True comes out -/
def spLaw (K : PySem.W.Frag) : Sp := fun vs H Q _ => ∃ (a : Addr) (ns : List Int), vs = [.ref a] ∧ SqL K H a (ns.map V.int) ∧ ns.length ≤ 63 ∧ ∀ H', Q (.bl true) H'
theorem law_end {P : Program} {w : World} {K : PySem.W.Frag} {mg : Str → Option Value} {base : Heap} {cls : Nat → Addr} {k : Nat} {f : Addr} {fd : FuncData} {ps : List Str} {ph : Phi} (F : FnOk P w K mg base CX0 k f fd ps (spM0 (gam P w K cls) ph))
    (h : ∀ ns : List Int, ns.length ≤ 63 → ∃ mu', ph [.scr ns] [] = some (.ok (.bl true), mu')) : FnOk P w K mg base CX0 k f fd ps (spLaw K) := by
  refine F.imp fun vs H Q E ⟨a, ns, e, hs, hl, q⟩ => ?_
  obtain ⟨mu', e1⟩ := h ns hl
  have o : Ok (gam P w K cls) ⟨[], []⟩ [] H := ⟨rfl, List.nodup_nil, fun i a c e _ => by simp at e, fun a m => by cases m⟩
  have eg : Gz ⟨[], []⟩ [] H = H := by
    funext b
    simp [Gz, own]
  refine ⟨[.scr ns], [], ⟨[], []⟩, .bl true, mu', o, ⟨.ref a, [], e, ?_, rfl⟩, e1, fun th' v H' f hv => ?_⟩
  · rw [eg]
    exact ⟨a, rfl, hs⟩
  · rw [show v = .bl true from hv]
    exact q H'
end Eb

/-! Eb: lists of tuples of ints, sorted; a result frozen; a range downward. -/
namespace Eb
open PySem L2
open Evl (Ex ex_l ex_t)
/-! ### the order of tuples of ints -/
theorem lex_asym : ∀ x y : List Int, HT.lexLt x y = true → HT.lexLt y x = false
  | [], [], h => by cases h
  | [], _ :: _, _ => rfl
  | _ :: _, [], h => by cases h
  | a :: x, b :: y, h => by
    rw [HT.lexLt_cons] at h ⊢
    by_cases e : a = b
    · rw [if_pos e] at h
      rw [if_pos e.symm]
      exact lex_asym x y h
    · rw [if_neg e] at h
      rw [if_neg (fun z => e z.symm)]
      have := of_decide_eq_true h
      exact decide_eq_false (by omega)
theorem lex_tr : ∀ x y z : List Int, HT.lexLt y x = false → HT.lexLt z y = false → HT.lexLt z x = false
  | [], _, [], _, _ => rfl
  | [], [], _ :: _, _, _ => rfl
  | [], _ :: _, _ :: _, _, _ => rfl
  | _ :: _, [], _, h, _ => by cases h
  | _ :: _, _ :: _, [], _, h => by cases h
  | a :: x, b :: y, c :: z, h1, h2 => by
    rw [HT.lexLt_cons] at h1 h2 ⊢
    by_cases e1 : b = a
    · rw [if_pos e1] at h1
      by_cases e2 : c = b
      · rw [if_pos e2] at h2
        rw [if_pos (e2.trans e1)]
        exact lex_tr x y z h1 h2
      · rw [if_neg e2] at h2
        rw [if_neg (fun q => e2 (q.trans e1.symm))]
        rw [← e1]
        exact h2
    · rw [if_neg e1] at h1
      have h1 := of_decide_eq_false h1
      by_cases e2 : c = b
      · rw [e2, if_neg e1]
        exact decide_eq_false h1
      · rw [if_neg e2] at h2
        have h2 := of_decide_eq_false h2
        rw [if_neg (by omega)]
        exact decide_eq_false (by omega)
theorem lex_total : ∀ x y : List Int, HT.lexLt x y = false → HT.lexLt y x = false → x = y
  | [], [], _, _ => rfl
  | [], _ :: _, h, _ => by cases h
  | _ :: _, [], _, h => by cases h
  | a :: x, b :: y, h1, h2 => by
    rw [HT.lexLt_cons] at h1 h2
    by_cases e : a = b
    · rw [if_pos e] at h1
      rw [if_pos e.symm] at h2
      rw [e, lex_total x y h1 h2]
    · rw [if_neg e] at h1
      rw [if_neg (fun q => e q.symm)] at h2
      have h1 := of_decide_eq_false h1
      have h2 := of_decide_eq_false h2
      omega
def insT (x : List Int) : List (List Int) → List (List Int)
  | [] => [x]
  | y :: l => if HT.lexLt y x = true then y :: insT x l else x :: y :: l
def srtT : List (List Int) → List (List Int)
  | [] => []
  | x :: l => insT x (srtT l)
theorem insT_perm (x : List Int) : ∀ l, (insT x l).Perm (x :: l)
  | [] => List.Perm.refl _
  | y :: l => by
    unfold insT
    split
    · exact ((insT_perm x l).cons y).trans (List.Perm.swap x y l)
    · exact List.Perm.refl _
theorem srtT_perm : ∀ l, (srtT l).Perm l
  | [] => List.Perm.refl _
  | x :: l => (insT_perm x _).trans ((srtT_perm l).cons x)
def LeT (x y : List Int) : Prop := HT.lexLt y x = false
theorem insT_pw {x : List Int} : ∀ {l}, l.Pairwise LeT → (insT x l).Pairwise LeT
  | [], _ => List.pairwise_singleton _ _
  | y :: l, h => by
    rw [List.pairwise_cons] at h
    unfold insT
    split
    · rename_i c
      rw [List.pairwise_cons]
      refine ⟨fun z hz => ?_, insT_pw h.2⟩
      rcases List.mem_cons.mp ((insT_perm x l).mem_iff.mp hz) with rfl | hz
      · exact lex_asym _ _ c
      · exact h.1 z hz
    · rename_i c
      have c : HT.lexLt y x = false := by simpa using c
      rw [List.pairwise_cons, List.pairwise_cons]
      refine ⟨fun z hz => ?_, h⟩
      rcases List.mem_cons.mp hz with rfl | hz
      · exact c
      · exact lex_tr _ _ _ c (h.1 z hz)
theorem srtT_pw : ∀ l, (srtT l).Pairwise LeT
  | [] => List.Pairwise.nil
  | x :: l => insT_pw (srtT_pw l)
theorem pwT_unique : ∀ {l m : List (List Int)}, l.Perm m → l.Pairwise LeT → m.Pairwise LeT → l = m
  | [], m, h, _, _ => (List.nil_perm.mp h).symm ▸ rfl
  | a :: l, [], h, _, _ => by have := h.length_eq; simp at this
  | a :: l, b :: m, h, h1, h2 => by
    rw [List.pairwise_cons] at h1 h2
    have e : a = b := by
      have ha : a ∈ b :: m := h.mem_iff.mp List.mem_cons_self
      have hb : b ∈ a :: l := h.mem_iff.mpr List.mem_cons_self
      rcases List.mem_cons.mp ha with ha | ha
      · exact ha
      · rcases List.mem_cons.mp hb with hb | hb
        · exact hb.symm
        · exact lex_total a b (h2.1 a ha) (h1.1 b hb)
    subst e
    rw [pwT_unique ((List.perm_cons a).mp h) h1.2 h2.2]
/-! ### two tuples compared as sorting does; what kind the keys are of -/
section
variable {prog : Program} {w : World} {A : Around} {E : Value → Shared → Prop} {s : Shared}
open PyProof.Rows
theorem oneLt_tups {l b : Addr} {items items2 : Array Value} {ns ms : List Int} {Q : Bool → Shared → Prop} (hl : IsTup s.heap l items) (hb : IsTup s.heap b items2) (hi : IntsAre items.toList ns) (hj : IntsAre items2.toList ms) (hu : A.units < cLine)
    (h : Q (HT.lexLt ns ms) s) : wpAny (model prog w) A (oneLt' true (.ref l) (.ref b)) Q E s := by
  obtain ⟨⟨cls, dd, data, sl⟩, ho, hc, n, hd⟩ := id hl
  obtain ⟨⟨cls2, dd2, data2, sl2⟩, ho2, hc2, n2, hd2⟩ := id hb
  simp only at hc hd hc2 hd2
  subst hc hd hc2 hd2
  rw [oneLt'_eq]
  simp only [if_true]
  refine wpAny_bind (wpAny_cRoomFor hu ?_)
  refine wpAny_bind (wpAny_callSpecialIfBound?_slot (T := "tuple") ⟨_, ho, rfl⟩ PySem.F.slot_tuple_lt (call_meets PySem.F.slot_tuple_lt ⟨_, ho, rfl⟩ PySem.F.entry_tuple_lt (PySem.F.args_tuple_lt_2 _ _) (HT.tuple_lt_ints l b items items2 n n2 dd dd2 sl sl2 ns ms hi hj) ⟨ho, ho2, ?_⟩))
  exact wpAny_truthy_bool h
/-- the keys: tuples, the first of them empty -/
theorem kind_first_empty {vs : List Value} {Q : SortKind → Shared → Prop} (h : ∀ v ∈ vs, ∃ b its, v = .ref b ∧ IsTup s.heap b its) (h0 : ∃ b r, vs = .ref b :: r ∧ IsTup s.heap b #[]) (hq : Q oneType' s) : wpAny (model prog w) A (keyKind' vs.toArray) Q E s := by
  have f : ∀ (l : List Value) {Q : List (Option Value) → Shared → Prop}, (∀ v ∈ l, ∃ b its, v = .ref b ∧ IsTup s.heap b its) → (∀ fs : List (Option Value), fs.length = l.length → (∀ b r, l = .ref b :: r → IsTup s.heap b #[] → ∃ t, fs = none :: t) → Q fs s) → wpAny (model prog w) A (l.mapM firstOfTuple') Q E s := by
    intro l
    induction l with
    | nil =>
      intro Q _ k
      rw [List.mapM_nil]
      exact wpAny_pure (k [] rfl fun b r e => by cases e)
    | cons v l ih =>
      intro Q hv k
      obtain ⟨b, its, rfl, o, ho, hc, n, hd⟩ := hv v List.mem_cons_self
      rw [List.mapM_cons]
      refine wpAny_bind ?_
      rw [PySem.W.kas_first_eq]
      refine wpAny_bind (PySem.W.Looks.here (show PySem.W.Looks (model prog w) s.heap (typeOf (.ref b)) o.cls from (PySem.W.Looks.ld ho).andThen .now) ?_)
      rw [hc, if_neg (by first | decide | simp)]
      refine wpAny_bind (listItems_at ho hd (wpAny_pure ?_))
      refine wpAny_bind (ih (fun v hv' => hv v (List.mem_cons_of_mem _ hv')) fun fs hl _ => wpAny_pure (k _ (by simp [hl]) ?_))
      rintro b2 r e hE
      cases e
      obtain ⟨o2, ho2, _, n2, hd2⟩ := hE
      rw [ho] at ho2
      cases ho2
      rw [hd] at hd2
      cases hd2
      exact ⟨fs, rfl⟩
  obtain ⟨b0, r0, e0, t0⟩ := h0
  rw [kat_kind_eq, List.mapM_toArray, map_eq_pure_bind]
  refine wpAny_bind (wpAny_bind (f vs h fun fs hl hf => wpAny_pure ?_))
  obtain ⟨t, rfl⟩ := hf b0 r0 e0 t0
  have h1 : ((none :: t).toArray.all fun x : Option Value => x.isSome) = false := by simp
  rw [if_neg (by rw [h1]; exact Bool.false_ne_true)]
  have h2 : (((none :: t : List (Option Value)).toArray[0]?).bind id).isSome = false := by simp
  rw [h2, if_neg Bool.false_ne_true]
  rw [oneTypeOnly'_eq, List.mapM_toArray, map_eq_pure_bind]
  refine wpAny_bind (wpAny_bind (wpAny_bind (PySem.W.kas_mapM (r := Value.type "tuple") vs (fun v hv Q' hq => ?_) (wpAny_pure ?_))))
  · obtain ⟨b, its, rfl, o, ho, hc, n, hd⟩ := h v hv
    refine PySem.W.Looks.here (show PySem.W.Looks (model prog w) s.heap (typeOf (.ref b)) o.cls from (PySem.W.Looks.ld ho).andThen .now) ?_
    rw [hc]
    exact hq
  · have h3 : ((List.map (fun _ => Value.type "tuple") vs).toArray.all fun x => x == Value.type "tuple") = true := by
      simp only [List.all_toArray, List.all_map, List.all_eq_true]
      intro _ _
      exact (by decide : (Value.type "tuple" == Value.type "tuple") = true)
    have h4 : (List.map (fun _ => Value.type "tuple") vs).toArray[0]? = some (Value.type "tuple") := by rw [e0]; simp
    rw [h4]
    simp only [h3, if_true]
    exact wpAny_pure (wpAny_pure hq)
theorem swo_tups (k : Value → List Int) : SrtO.Swo fun v u => HT.lexLt (k v) (k u) := ⟨fun x y h => lex_asym _ _ h, fun x y z h1 h2 => lex_tr _ _ _ h1 h2⟩
theorem sorted_tups {l : Addr} {vs : List Value} {k : Value → List Int} {Q : Value → Shared → Prop} (hl : s.heap.IsList l vs.toArray) (hz : vs.length ≤ sizeLine) (hp : ∀ v ∈ vs, ∃ b its, v = .ref b ∧ IsTup s.heap b its ∧ IntsAre its.toList (k v))
    (h0 : ∃ b r, vs = .ref b :: r ∧ IsTup s.heap b #[]) (hu : A.units + 8 < cLine)
    (h : ∀ (h' : Heap) (d : Addr) (out : List Value), SrtO.Srtd (fun v u => HT.lexLt (k v) (k u)) out → out.Perm vs → (∀ b o, s.heap.get? b = some o → h'.get? b = some o) → s.heap.objs.size ≤ d → (∃ n, h'.get? d = some (seqObj "list" out.toArray n)) → Q (.ref d) { s with heap := h' }) :
    wpAny (model prog w) A (call (.builtin "sorted") [.ref l]) Q E s := by
  refine SrtO.sorted_ord (swo_tups k) hl hz (fun h2 h₁ a ha kk => ?_) fun out hs hb => ?_
  · intro h' keep
    have ne : ∀ b its, IsTup s.heap b its → IsTup h' b its := fun b its ⟨o, ho, hc, r⟩ => ⟨o, keep b o (kk b o ho).1 (kk b o ho).2, hc, r⟩
    refine ⟨oneType', fun Q E hq => kind_first_empty (s := { s with heap := h' }) (fun v hv => ?_) ?_ hq, ?_⟩
    · obtain ⟨b, its, e, t, _⟩ := hp v hv
      exact ⟨b, its, e, ne b its t⟩
    · obtain ⟨b, r, e, t⟩ := h0
      exact ⟨b, r, e, ne b _ t⟩
    · intro p q hm hm'
      obtain ⟨b, its, e, t, i1⟩ := hp _ hm
      obtain ⟨c, itc, e', t', i2⟩ := hp _ hm'
      show wpAny (model prog w) A.in1.in1 (oneLt' true p.1 q.1) _ _ _
      rw [e, e']
      exact oneLt_tups (s := { s with heap := h' }) (ns := k p.1) (ms := k q.1) (ne b its t) (ne c itc t') i1 i2 (by show A.units + 1 + 1 < cLine; omega) ⟨rfl, rfl⟩
  · exact h _ _ out hs hb.perm (fun b o e => sortedAll_old e) (Nat.le_succ _) (sortedAll_at s.heap vs out.toArray)
end
/-! ### the rule -/
def tupsOf : List D → Option (List (List Int))
  | [] => some []
  | .tup ds :: r => match intsOf ds with
    | some ns => (tupsOf r).map (ns :: ·)
    | none => none
  | _ :: _ => none
def sortTTD (mu : Mu) : List D → Option D
  | [x] => match lstOf mu x with
    | some (.tup [] :: r) => if r.length ≤ 10000 then (tupsOf (.tup [] :: r)).map fun l => .lst ((srtT l).map fun ns => .tup (ns.map .int)) else none
    | _ => none
  | _ => none
theorem intsOf_map : ∀ {ds : List D} {ns : List Int}, intsOf ds = some ns → ds = ns.map D.int
  | [], ns, h => by cases (Option.some.inj h); rfl
  | .int i :: ds, ns, h => by
    have h : (intsOf ds).map (i :: ·) = some ns := h
    cases hj : intsOf ds with
    | none => rw [hj] at h; cases h
    | some ms =>
      rw [hj] at h
      cases (Option.some.inj h)
      rw [intsOf_map hj]
      rfl
  | .non :: _, _, h => by cases h
  | .bl _ :: _, _, h => by cases h
  | .str _ :: _, _, h => by cases h
  | .tup _ :: _, _, h => by cases h
  | .lst _ :: _, _, h => by cases h
  | .ins _ _ :: _, _, h => by cases h
  | .set _ :: _, _, h => by cases h
  | .cel _ :: _, _, h => by cases h
  | .scr _ :: _, _, h => by cases h
  | .ty _ :: _, _, h => by cases h
  | .cls _ :: _, _, h => by cases h
  | .dic _ _ :: _, _, h => by cases h
  | .exn _ _ :: _, _, h => by cases h
section
variable {X : Cx} {g : Gam} {th : Th} {mu : Mu} {H : Hp} {G : Hp}
theorem tupsOf_eq : ∀ {ds : List D} {ls : List (List Int)} {vs : List V}, RpL g th (Gz th mu H) ds vs → tupsOf ds = some ls → ∃ ps : List (Addr × List Int), vs = ps.map (fun p => V.ref p.1) ∧ ps.map (·.2) = ls ∧ ∀ p ∈ ps, SqT g.K H p.1 (p.2.map V.int) ∧ Rp g th (Gz th mu H) (.tup (p.2.map .int)) (.ref p.1)
  | [], ls, vs, h, e => by
    cases (Option.some.inj e)
    exact ⟨[], h, rfl, by simp⟩
  | .tup ds :: r, ls, vs, h, e => by
    obtain ⟨v, t, rfl, h1, h2⟩ := h
    have e : (match intsOf ds with | some ns => (tupsOf r).map (ns :: ·) | none => none) = some ls := e
    cases hi : intsOf ds with
    | none => rw [hi] at e; cases e
    | some ns =>
      rw [hi] at e
      cases ht : tupsOf r with
      | none => rw [ht] at e; cases e
      | some l2 =>
        rw [ht] at e
        cases (Option.some.inj e)
        obtain ⟨ps, e1, e2, e3⟩ := tupsOf_eq h2 ht
        obtain ⟨a, xs, rfl, s1, r1, _⟩ := sqT_of h1
        have ex := intsOf_eq r1 hi
        have ed : ds = ns.map D.int := intsOf_map hi
        refine ⟨(a, ns) :: ps, by rw [e1]; rfl, by rw [List.map_cons, e2], fun p hp => ?_⟩
        rcases List.mem_cons.mp hp with rfl | hp
        · exact ⟨by rw [← ex]; exact s1, by rw [← ed]; exact h1⟩
        · exact e3 p hp
  | .non :: r, ls, vs, h, e => by cases e
  | .bl _ :: r, ls, vs, h, e => by cases e
  | .int _ :: r, ls, vs, h, e => by cases e
  | .str _ :: r, ls, vs, h, e => by cases e
  | .lst _ :: r, ls, vs, h, e => by cases e
  | .ins _ _ :: r, ls, vs, h, e => by cases e
  | .set _ :: r, ls, vs, h, e => by cases e
  | .cel _ :: r, ls, vs, h, e => by cases e
  | .scr _ :: r, ls, vs, h, e => by cases e
  | .ty _ :: r, ls, vs, h, e => by cases e
  | .cls _ :: r, ls, vs, h, e => by cases e
  | .dic _ _ :: r, ls, vs, h, e => by cases e
  | .exn _ _ :: r, ls, vs, h, e => by cases e
def rSortTT (K : PySem.W.Frag) : List V → Hp → VK → Prop := fun vs H Q => ∃ (a : Addr) (ps : List (Addr × List Int)), vs = [V.ref a] ∧ H a = some (.lst (ps.map fun p => V.ref p.1)) ∧ ps.length ≤ 100000 ∧ (∀ p ∈ ps, SqT K H p.1 (p.2.map V.int)) ∧ (∃ b r, ps = (b, []) :: r) ∧
  ∀ (p : Addr) (qs : List (Addr × List Int)), H p = none → qs.Perm ps → (qs.map (·.2)).Pairwise LeT → Q (.ref p) (upd H p (.lst (qs.map fun p => V.ref p.1)))
open Classical in
noncomputable def keyAt (ps : List (Addr × List Int)) : Value → List Int := fun v => match v with
  | .ref b => ((ps.find? fun p => p.1 == b).map (·.2)).getD []
  | _ => []
theorem vals_refs : ∀ {l : List Addr} {us : List Value}, Vals (l.map V.ref) us → us = l.map Value.ref
  | [], _, h => by cases h; rfl
  | a :: l, _, h => by
    cases h with
    | cons r t =>
      cases r
      rw [vals_refs t]
      rfl
theorem refs_vals : ∀ l : List Addr, Vals (l.map V.ref) (l.map Value.ref)
  | [] => .nil
  | a :: l => .cons rfl (refs_vals l)
theorem int_inj : ∀ {l m : List Int}, l.map V.int = m.map V.int → l = m
  | [], [], _ => rfl
  | [], _ :: _, h => by cases h
  | _ :: _, [], h => by cases h
  | a :: l, b :: m, h => by
    rw [List.map_cons, List.map_cons] at h
    injection h with h1 h2
    injection h1 with h1
    rw [h1, int_inj h2]
theorem cr_sortTT (hu : X.A.units + 64 < cLine) : CallR X (.builtin "sorted") (rSortTT X.K) := by
  intro pins s σ H vs us Q I r h
  obtain ⟨a, ps, rfl, hH, hlen, hsq, ⟨b0, r0, e0⟩, q⟩ := h
  rw [Vals.ref1 r]
  obtain ⟨its, rv, hl, hz⟩ := I.list (xs := ps.map fun p => V.ref p.1) (SqL.of hH)
  have ei : its = (ps.map (·.1)).map Value.ref := vals_refs (by rw [List.map_map]; exact rv)
  have hk : ∀ p ∈ ps, keyAt ps (.ref p.1) = p.2 := fun p hp => by
    show ((ps.find? fun x => x.1 == p.1).map (·.2)).getD [] = p.2
    cases hf : ps.find? fun x => x.1 == p.1 with
    | none =>
      have := List.find?_eq_none.mp hf p hp
      simp at this
    | some p' =>
      have h1 := List.mem_of_find?_eq_some hf
      have h2 := List.find?_some hf
      have h2 : p'.1 = p.1 := by simpa using h2
      have h3 := hsq p' h1
      rw [h2] at h3
      exact int_inj (I.tuple_inj h3 (hsq p hp))
  have hv : ∀ v ∈ its, ∃ p ∈ ps, v = .ref p.1 := fun v hv => by
    rw [ei, List.map_map] at hv
    obtain ⟨p, hp, rfl⟩ := List.mem_map.mp hv
    exact ⟨p, hp, rfl⟩
  have tup : ∀ p ∈ ps, ∃ t, PyProof.Rows.IsTup s.heap p.1 t ∧ PyProof.Rows.IntsAre t.toList p.2 ∧ (p.2 = [] → t = #[]) := fun p hp => by
    obtain ⟨ts, rt, ht, _⟩ := I.tuple (hsq p hp)
    refine ⟨ts.toArray, ht, intsAre_of rt, fun e => ?_⟩
    rw [e] at rt
    cases rt
    rfl
  refine sorted_tups (k := keyAt ps) hl.isList (by rw [← rv.length]; exact hz) (fun v hv' => ?_) ?_ (by omega) fun h' d out hs hp keep hd hg => ?_
  · obtain ⟨p, hp, rfl⟩ := hv v hv'
    obtain ⟨t, h1, h2, _⟩ := tup p hp
    exact ⟨p.1, t, rfl, h1, by rw [hk p hp]; exact h2⟩
  · obtain ⟨t, h1, _, h3⟩ := tup (b0, []) (by rw [e0]; exact List.mem_cons_self)
    rw [h3 rfl] at h1
    exact ⟨b0, (r0.map (·.1)).map Value.ref, by rw [ei, e0]; rfl, h1⟩
  · let ad : Value → Addr × List Int := fun v => (match v with | .ref b => b | _ => 0, keyAt ps v)
    have h1 : its.map ad = ps := by
      rw [ei, List.map_map, List.map_map]
      conv => rhs; rw [← List.map_id ps]
      apply List.map_congr_left
      intro p hp
      show (p.1, keyAt ps (.ref p.1)) = p
      rw [hk p hp]
    have h2 : (out.map ad).Perm ps := by rw [← h1]; exact hp.map ad
    have h3 : (out.map ad).map (fun p => Value.ref p.1) = out := by
      rw [List.map_map]
      conv => rhs; rw [← List.map_id out]
      apply List.map_congr_left
      intro v hv'
      obtain ⟨p, _, rfl⟩ := hv v (hp.mem_iff.mp hv')
      rfl
    have h4 : ((out.map ad).map (·.2)).Pairwise LeT := by
      rw [List.map_map, List.pairwise_map]
      exact hs
    obtain ⟨n, hg⟩ := hg
    have hz2 : ((out.map ad).map fun p => V.ref p.1).length ≤ sizeLine := by
      rw [List.length_map, h2.length_eq]
      rw [sizeLine_eq]
      omega
    have hvs : Vals ((out.map ad).map fun p => V.ref p.1) out := by
      have := refs_vals ((out.map ad).map (·.1))
      rw [List.map_map] at this
      have e5 : ((out.map ad).map (·.1)).map Value.ref = out := by rw [List.map_map]; exact h3
      rw [e5] at this
      exact this
    exact ⟨.ref d, _, I.laid (t' := s.toks) (o := .lst ((out.map ad).map fun p => V.ref p.1)) keep hd ⟨hz2, out, n, hvs, hg⟩, rfl, q d (out.map ad) (I.hok.fresh hd) h2 h4⟩
theorem cm_sortTT (hK : X.K = g.K) (hu : X.A.units + 64 < cLine) : CallM X g (.builtin "sorted") (pureF sortTTD) := by
  refine .mk' (cr_sortTT hu) fun th mu H ds vs d o hd e Q q => ?_
  rw [hK]
  unfold sortTTD at e
  split at e
  · rename_i x
    split at e
    · rename_i r hx
      split at e
      · rename_i hl
        cases ht : tupsOf (.tup [] :: r) with
        | none => rw [ht] at e; cases e
        | some ls =>
          rw [ht] at e
          cases (Option.some.inj e)
          obtain ⟨v, rfl, hv⟩ := rpL1 hd
          obtain ⟨a, xs, rfl, s1, r1⟩ := lst_at o hv hx
          obtain ⟨ps, e1, e2, e3⟩ := tupsOf_eq r1 ht
          subst e1
          have hlen : ps.length = r.length + 1 := by
            have := r1.length
            simpa using this
          refine ⟨a, ps, rfl, s1, by omega, fun p hp => (e3 p hp).1, ?_, fun p qs hp hq hs => q _ _ (Evl.Ex.new hp) (rp_newLst o hp ?_)⟩
          · cases ps with
            | nil => simp at hlen
            | cons p ps =>
              obtain ⟨b, l⟩ := p
              have : l = [] := by
                have e4 : tupsOf (.tup [] :: r) = (tupsOf r).map (([] : List Int) :: ·) := rfl
                rw [e4] at ht
                cases hr : tupsOf r with
                | none => rw [hr] at ht; cases ht
                | some l2 =>
                  rw [hr] at ht
                  have ht := Option.some.inj ht
                  rw [← ht, List.map_cons] at e2
                  exact (List.cons.inj e2).1
              exact ⟨b, ps, by rw [this]⟩
          · have e5 : qs.map (·.2) = srtT ls := pwT_unique ((hq.map _).trans (by rw [e2]; exact (srtT_perm ls).symm)) hs (srtT_pw ls)
            rw [← e5]
            have all : ∀ p ∈ qs, Rp g th (Gz th mu H) (.tup (p.2.map .int)) (.ref p.1) := fun p hp => (e3 p (hq.mem_iff.mp hp)).2
            clear e5 hs hq
            induction qs with
            | nil => rfl
            | cons p qs ih => exact ⟨.ref p.1, _, rfl, all p List.mem_cons_self, ih fun p hp => all p (List.mem_cons_of_mem _ hp)⟩
      · cases e
    · cases e
  · cases e
end
end Eb

/-! Eb: a range downward; a def's result frozen. -/
namespace Eb
open PySem L2
open Evl (Ex ex_l ex_t)
section
variable {X : Cx} {g : Gam} {W : WX} {tg a b c : Expr} {mr : M (List D)} {p pos : Pos}
theorem walks_c {th : Th} {G : Hp} {lo : Int} {n : Nat} : WalksD g th G (Itc lo (-1) n) ((List.range n).map fun (i : Nat) => D.int (lo - (i : Int))) := by
  intro th' mu' H' pf o ex i
  refine ⟨fun d e => ?_, fun e => by rw [e]; show n ≤ _; simp⟩
  rw [List.getElem?_map] at e
  have hi : i < n := by
    by_cases hi : i < n
    · exact hi
    · rw [List.getElem?_eq_none (by simpa using hi)] at e; cases e
  rw [List.getElem?_range hi] at e
  have e' := Option.some.inj e
  subst e'
  exact ⟨hi, fun x H'' ⟨e1, e2⟩ => ⟨by rw [e1]; exact fun _ _ z => z, by rw [e2]; show V.int _ = V.int _; congr 1; omega⟩⟩
theorem pmi_rng3 (hm : X.mg "range" = none) (ha : PA X [a, b, c] (canA g W mr)) (hg : Gl X "range" := by rfl) (hs : starEach [a, b, c] X.env = (false, eval a X.env) :: starEach [b, c] X.env := by rfl) (hpl : (backTo pos (starEach [b, c] X.env)).any (·.1) = false := by rfl) :
    PI X tg (.Call (.Name "range" p) [a, b, c] [] pos) (canI g W (mRng3 mr)) :=
  PIimp (pi_range3 hg hm ha hs hpl) fun σ H R h => (can_bind (R := RA g) h).imp fun vs H1 ⟨ds, rh, mu1, th1, hd, r1, h1⟩ => by
    obtain ⟨es, e, q⟩ := canAt_lift r1 h1
    unfold rng3 at e
    split at e
    · rename_i i j
      split at e
      · rename_i hn
        have e' := Option.some.inj e
        subst e'
        obtain ⟨v, v', v2, rfl, hv, hv', hv2⟩ := rpL3 hd
        have hv : v = .int i := hv
        have hv' : v' = .int j := hv'
        have hv2 : v2 = .int (-1) := hv2
        subst hv hv' hv2
        exact ⟨i, j, -1, _, rfl, RgC.neg (by omega) (by omega) (by omega) (by omega), q th1 _ H1 (Fw.refl r1.ok) walks_c⟩
      · cases e
    · cases e
end
def mFz (f : Phi) : Phi := fun ds mu => match f ds mu with
  | some (.ok d, mu') => (frzD d mu').map fun p => (.ok p.1, p.2)
  | some (.er x, mu') => some (.er x, mu')
  | none => none
section
variable {g : Gam} {H : Hp}
theorem spM_fz {f : Phi} {vs : List V} {Q : VK} {E : XK} (h : spM g (mFz f) vs H Q E) : spM g f vs H Q E := by
  obtain ⟨ds, mu, th, r, mu', o, hd, e, q⟩ := h
  unfold mFz at e
  split at e
  · rename_i d mu1 he
    cases hf : frzD d mu1 with
    | none => rw [hf] at e; cases e
    | some p =>
      obtain ⟨d2, mu2⟩ := p
      rw [hf] at e
      cases (Option.some.inj e)
      refine ⟨ds, mu, th, .ok d, mu1, o, hd, he, fun th' v H' f hv => ?_⟩
      obtain ⟨f2, hv2⟩ := frz_ok f.ok hv hf
      exact q th' v H' (f.trans f2) hv2
  · rename_i x mu1 he
    cases (Option.some.inj e)
    exact ⟨ds, mu, th, _, _, o, hd, he, q⟩
  · cases e
end
theorem FnOk.fz {P : Program} {w : World} {K : PySem.W.Frag} {mg : Str → Option Value} {base : Heap} {CX : CXT} {k : Nat} {f : Addr} {fd : FuncData} {ps : List Str} {ph : Phi} {g : Gam} (F : FnOk P w K mg base CX k f fd ps (spM g ph)) : FnOk P w K mg base CX k f fd ps (spM g (mFz ph)) :=
  F.imp fun _ _ _ _ h => spM_fz h
theorem Cal.fz {P : Program} {w : World} {K : PySem.W.Frag} {mg : Str → Option Value} {base : Heap} {cls : Nat → Addr} {k : Nat} {ps : List Str} {ph : Phi} {x : Str} (h : Cal P w K mg base cls x k ps ph) : Cal P w K mg base cls x k ps (mFz ph) := by
  obtain ⟨f, fd, h1, h2, h3, h4⟩ := h.ex
  exact ⟨f, fd, h1, h2, h3, Eb.FnOk.fz h4⟩
end Eb

/-! Eb: in, of data that isn't flat. -/
namespace Eb
open PySem L2
open Evl (Ex ex_l ex_t)
def rInDp (K : PySem.W.Frag) (neg : Bool) : R2 := fun x y H Q => ∃ a xs d es, y = .ref a ∧ (SqL K H a xs ∨ SqT K H a xs) ∧ Dp K H x d ∧ DpAll K H xs es ∧ SeqAt.shaped d = true ∧ es.all SeqAt.shaped = true ∧
  Q (.bl (if neg then !(es.any fun e => PyData.eqv e d) else es.any fun e => PyData.eqv e d)) H
open Classical in
noncomputable def eqWith (h : Heap) (d : PyData) (v : Value) : Bool := decide (∃ e as, Reads h v e as ∧ e.plain = true ∧ PyData.eqv e d = true)
open Classical in
theorem eqWith_of {h : Heap} {d e : PyData} {v : Value} {as : List Addr} (r : Reads h v e as) (p : e.plain = true) : eqWith h d v = PyData.eqv e d := by
  unfold eqWith
  cases he : PyData.eqv e d with
  | true => exact decide_eq_true ⟨e, as, r, p, he⟩
  | false =>
    refine decide_eq_false ?_
    rintro ⟨e', as', r', p', h'⟩
    rw [SeqAt.plain_unique e' e v as' as p' r' r, he] at h'
    cases h'
section
variable {X : Cx}
theorem reads_all {pins : List (Addr × Obj)} {σ : L2.St} {H : Hp} {s : Shared} (I : Inv X pins σ H s) : ∀ (es : List PyData) (xs : List V) (us : List Value), DpAll X.K H xs es → Vals xs us → es.all SeqAt.shaped = true →
    (∀ u ∈ us, ∃ e as, Reads s.heap u e as ∧ SeqAt.shaped e = true) ∧ ∀ d, us.any (eqWith s.heap d) = es.any fun e => PyData.eqv e d
  | [], _, _, h, r, _ => by
    cases h
    cases r
    exact ⟨fun u hu => absurd hu (List.not_mem_nil), fun d => rfl⟩
  | e :: es, _, _, h, r, hs => by
    cases h with
    | cons h1 h2 =>
      cases r with
      | cons r1 r2 =>
        rw [List.all_cons, Bool.and_eq_true] at hs
        obtain ⟨as, rd⟩ := Dp.reads I _ _ _ h1 r1
        obtain ⟨q1, q2⟩ := reads_all I es _ _ h2 r2 hs.2
        refine ⟨fun u hu => ?_, fun d => ?_⟩
        · rcases List.mem_cons.mp hu with rfl | hu
          · exact ⟨_, as, rd, hs.1⟩
          · exact q1 u hu
        · rw [List.any_cons, List.any_cons, q2, eqWith_of rd (PyData.plain_of_canLay0 _ (SeqAt.canLay_of_shaped hs.1))]
theorem at_with {s : Shared} {A : Around} {d : PyData} {u v : Value} {bs : List Addr} (hu : A.units + 64 < cLine) (rv : Reads s.heap v d bs) (sd : SeqAt.shaped d = true) (h : ∃ e as, Reads s.heap u e as ∧ SeqAt.shaped e = true) : SeqAt.EqAt A s u v (eqWith s.heap d u) := by
  obtain ⟨e, as, r, se⟩ := h
  rw [eqWith_of r (PyData.plain_of_canLay0 _ (SeqAt.canLay_of_shaped se))]
  exact SeqAt.eqAt_reads e d A s u v as bs r rv (SeqAt.canLay_of_shaped se) (SeqAt.canLay_of_shaped sd) (SeqAt.room_of_shaped se hu)
theorem op_inDp (hu : X.A.units + 80 < cLine) : OpR X (compareOp .In) (rInDp X.K false) := by
  intro pins s σ H x y v u Q I rx ry h
  obtain ⟨p, xs, d, es, rfl, hq, hd, he, sd, se, q⟩ := h
  cases ry
  obtain ⟨bs, rv⟩ := Dp.reads I d x v hd rx
  have hu1 : X.A.in1.units + 64 < cLine := by show X.A.units + 1 + 64 < cLine; omega
  rcases hq with hq | hq
  · obtain ⟨its, r, pl, hz⟩ := I.list hq
    obtain ⟨q1, q2⟩ := reads_all I es xs its he r se
    refine SeqAt.in_listAt (eqWith s.heap d) pl.isList (fun w hw => at_with hu1 rv sd (q1 w (by simpa using hw))) ⟨.bl _, H, I, rfl, ?_⟩
    rw [show its.toArray.any (eqWith s.heap d) = its.any (eqWith s.heap d) by simp, q2]
    exact q
  · obtain ⟨its, r, pl, hz⟩ := I.tuple hq
    obtain ⟨q1, q2⟩ := reads_all I es xs its he r se
    refine SeqAt.in_tupleAt (eqWith s.heap d) pl (fun w hw => at_with hu1 rv sd (q1 w (by simpa using hw))) ⟨.bl _, H, I, rfl, ?_⟩
    rw [show its.toArray.any (eqWith s.heap d) = its.any (eqWith s.heap d) by simp, q2]
    exact q
theorem op_notinDp (hu : X.A.units + 80 < cLine) : OpR X (compareOp .NotIn) (rInDp X.K true) := by
  intro pins s σ H x y v u Q I rx ry h
  obtain ⟨p, xs, d, es, rfl, hq, hd, he, sd, se, q⟩ := h
  cases ry
  obtain ⟨bs, rv⟩ := Dp.reads I d x v hd rx
  have hu1 : X.A.in1.units + 64 < cLine := by show X.A.units + 1 + 64 < cLine; omega
  rcases hq with hq | hq
  · obtain ⟨its, r, pl, hz⟩ := I.list hq
    obtain ⟨q1, q2⟩ := reads_all I es xs its he r se
    refine SeqAt.notIn_listAt (eqWith s.heap d) pl.isList (fun w hw => at_with hu1 rv sd (q1 w (by simpa using hw))) ⟨.bl _, H, I, rfl, ?_⟩
    rw [show its.toArray.any (eqWith s.heap d) = its.any (eqWith s.heap d) by simp, q2]
    exact q
  · obtain ⟨its, r, pl, hz⟩ := I.tuple hq
    obtain ⟨q1, q2⟩ := reads_all I es xs its he r se
    refine SeqAt.notIn_tupleAt (eqWith s.heap d) pl (fun w hw => at_with hu1 rv sd (q1 w (by simpa using hw))) ⟨.bl _, H, I, rfl, ?_⟩
    rw [show its.toArray.any (eqWith s.heap d) = its.any (eqWith s.heap d) by simp, q2]
    exact q
end
/-! ### the rule -/
def inXB (mu : Mu) (x y : D) : Option Bool := match pyD mu 12 x, (match y with | .tup ds => some ds | y => lstOf mu y) with
  | some p, some ds => match allM (pyD mu 12) ds with
    | some ps => if SeqAt.shaped p && ps.all SeqAt.shaped then some (ps.any fun e => PyData.eqv e p) else none
    | none => none
  | _, _ => none
def inX (mu : Mu) (x y : D) : Option D := (inXB mu x y).map .bl
def notinX (mu : Mu) (x y : D) : Option D := (inXB mu x y).map fun b => .bl (!b)
section
variable {X : Cx} {g : Gam} {th : Th} {mu : Mu} {H : Hp}
theorem inXB_at {x y : D} {v u : V} {b : Bool} (o : Ok g th mu H) (hx : Rp g th (Gz th mu H) x v) (hy : Rp g th (Gz th mu H) y u) (e : inXB mu x y = some b) :
    ∃ a xs d es, u = .ref a ∧ (SqL g.K H a xs ∨ SqT g.K H a xs) ∧ Dp g.K H v d ∧ DpAll g.K H xs es ∧ SeqAt.shaped d = true ∧ es.all SeqAt.shaped = true ∧ (es.any fun e => PyData.eqv e d) = b := by
  unfold inXB at e
  split at e
  · rename_i p ds hp hds
    split at e
    · rename_i ps hps
      split at e
      · rename_i hs
        rw [Bool.and_eq_true] at hs
        have d1 := pyD_dp o 12 x v p hx hp
        have sq : ∃ a xs, u = .ref a ∧ (SqL g.K H a xs ∨ SqT g.K H a xs) ∧ RpL g th (Gz th mu H) ds xs := by
          split at hds
          · cases (Option.some.inj hds)
            obtain ⟨a, xs, e1, e2, e3, _⟩ := sqT_of hy
            exact ⟨a, xs, e1, .inr e2, e3⟩
          · obtain ⟨a, xs, e1, e2, e3⟩ := lst_at o hy hds
            exact ⟨a, xs, e1, .inl (SqL.of e2), e3⟩
        obtain ⟨a, xs, e1, e2, e3⟩ := sq
        exact ⟨a, xs, p, ps, e1, e2, d1, allM_dp (pyD_dp o 12) ds xs ps e3 hps, hs.1, hs.2, Option.some.inj e⟩
      · cases e
    · cases e
  · cases e
theorem om_inX (hK : X.K = g.K) (hu : X.A.units + 80 < cLine) : OpM X g (compareOp .In) inX := by
  refine .mk' (op_inDp hu) fun th mu H x y v u d o hx hy e Q q => ?_
  unfold inX at e
  cases hb : inXB mu x y with
  | none => rw [hb] at e; cases e
  | some b =>
    rw [hb] at e
    cases (Option.some.inj e)
    obtain ⟨a, xs, p, es, e1, e2, e3, e4, e5, e6, e7⟩ := inXB_at o hx hy hb
    exact ⟨a, xs, p, es, e1, by rw [hK]; exact e2, by rw [hK]; exact e3, by rw [hK]; exact e4, e5, e6, by rw [e7]; exact q _ H (fun _ _ z => z) rfl⟩
theorem om_notinX (hK : X.K = g.K) (hu : X.A.units + 80 < cLine) : OpM X g (compareOp .NotIn) notinX := by
  refine .mk' (op_notinDp hu) fun th mu H x y v u d o hx hy e Q q => ?_
  unfold notinX at e
  cases hb : inXB mu x y with
  | none => rw [hb] at e; cases e
  | some b =>
    rw [hb] at e
    cases (Option.some.inj e)
    obtain ⟨a, xs, p, es, e1, e2, e3, e4, e5, e6, e7⟩ := inXB_at o hx hy hb
    exact ⟨a, xs, p, es, e1, by rw [hK]; exact e2, by rw [hK]; exact e3, by rw [hK]; exact e4, e5, e6, by rw [e7]; exact q _ H (fun _ _ z => z) rfl⟩
end
theorem hu80 {k : Nat} {A : Around} (hr : Room k A) : A.units + 80 < cLine := by
  have := hr.un
  omega
end Eb

/-! Eb: texts split, texts read as ints, enumerate. -/
namespace Eb
open PySem L2
open Evl (Ex ex_l ex_t)
theorem map_str_rp {g : Gam} {th : Th} {G : Hp} : ∀ ys : List Str, RpL g th G (ys.map .str) (ys.map V.str)
  | [] => rfl
  | n :: ns => ⟨_, _, rfl, rfl, map_str_rp ns⟩
def splitF : MtF := fun o ds mu => match o, ds with
  | .str a, [.str b] => if (b.length == 0) = false ∧ a.length ≤ 100000 then some (.lst ((Txt.split a b).map .str), mu) else none
  | _, _ => none
def intSD (_ : Mu) : List D → Option D
  | [.str z] => if z.length ≤ 640 then (PySem.intText? z).map .int else none
  | _ => none
def enumD : List D → Option (List D)
  | [.lst ds] => some (ds.zipIdx.map fun p => .tup [.int (p.2 : Int), p.1])
  | _ => none
def mEnum (mr : M (List D)) : M (List D) := bindM mr fun ds => lift fun _ => enumD ds
section
variable {X : Cx} {g : Gam} {W : WX} {tg e : Expr} {mr : M (List D)} {p pos tpos : Pos} {elts : List Expr} {kk : Nat}
theorem ms_split : MtS X g "str" "str.split" isStr splitF := by
  refine ⟨_, mt_split, fun th mu H d v o h c => ?_, fun th mu H d v ds vs d' mu' o h hs e Q q => ?_⟩
  · cases d with
    | str z => rw [show v = .str z from h]; rfl
    | _ => cases c
  · unfold splitF at e
    split at e
    · rename_i a b
      split at e
      · rename_i hl
        cases (Option.some.inj e)
        obtain ⟨w, rfl, hw⟩ := rpL1 hs
        have hw : w = .str b := hw
        subst hw
        refine ⟨a, b, h, rfl, hl.1, by rw [sizeLine_eq]; omega, fun p hp => ?_⟩
        refine q th _ _ ⟨Pfx.refl, o.ex (Evl.Ex.new hp), Gz_ex (Evl.Ex.new hp), fun x m => ?_⟩ (rp_newLst o hp (map_str_rp _))
        obtain ⟨_, u, hu, _⟩ := o.hid x m
        rw [upd_ne (ne_of_none hu hp)]
      · cases e
    · cases e
theorem cm_intS : CallM X g (.type "int") (pureF intSD) := by
  refine .mk' call_int_str fun th mu H ds vs d o hd e Q q => ?_
  unfold intSD at e
  split at e
  · rename_i z
    split at e
    · rename_i hl
      cases hi : PySem.intText? z with
      | none => rw [hi] at e; cases e
      | some n =>
        rw [hi] at e
        cases (Option.some.inj e)
        obtain ⟨v, rfl, hv⟩ := rpL1 hd
        have hv : v = .str z := hv
        subst hv
        exact ⟨z, n, rfl, hi, hl, q _ H (fun _ _ z => z) rfl⟩
    · cases e
  · cases e
theorem walks_e {th : Th} {G : Hp} {K : PySem.W.Frag} {a : Addr} {xs : List V} {ds : List D} (hs : SqL K G a xs) (hd : RpL g th G ds xs) : WalksD g th G (Ite K a) (ds.zipIdx.map fun p => .tup [.int (p.2 : Int), p.1]) := by
  intro th' mu' H' pf o ex i
  have eh : Ex G H' := ex.trans Gz_sub
  refine ⟨fun d e => ?_, fun e => ⟨xs, ex_l eh hs, by rw [hd.length, e]; simp⟩⟩
  rw [List.getElem?_map, List.getElem?_zipIdx] at e
  cases hi : ds[i]? with
  | none => rw [hi] at e; cases e
  | some d0 =>
    rw [hi] at e
    have e : D.tup [.int ((0 + i : Nat) : Int), d0] = d := Option.some.inj e
    rw [Nat.zero_add] at e
    subst e
    obtain ⟨v, e1, e2⟩ := hd.get hi
    refine ⟨⟨xs, v, ex_l eh hs, e1⟩, fun x H'' y => ?_⟩
    obtain ⟨T, x0, rfl, hT, rfl, y⟩ := y
    have e3 := y xs (ex_l eh hs)
    rw [e1] at e3
    have : v = x0 := Option.some.inj e3
    subst this
    refine ⟨Evl.Ex.new hT, ?_⟩
    exact rp_newTup o hT ⟨_, _, rfl, rfl, _, _, rfl, e2.monoI pf ex, rfl⟩
theorem pmi_enum (hK : X.K = g.K) (hm : X.mg "enumerate" = none) (ha : PA X [e] (canA g W mr)) (hg : Gl X "enumerate" := by rfl) (hs : starEach [e] X.env = [(false, eval e X.env)] := by rfl) :
    PI X (.Tuple elts kk tpos) (.Call (.Name "enumerate" p) [e] [] pos) (canI g W (mEnum mr)) :=
  PIimp (pi_enum hg hm ha hs) fun σ H R h => (can_bind (R := RA g) h).imp fun vs H1 ⟨ds, rh, mu1, th1, hd, r1, h1⟩ => by
    obtain ⟨es, e, q⟩ := canAt_lift r1 h1
    unfold enumD at e
    split at e
    · rename_i l
      cases (Option.some.inj e)
      obtain ⟨v, rfl, hv⟩ := rpL1 hd
      obtain ⟨a, xs, rfl, s1, r2⟩ := hv
      rw [hK]
      exact ⟨a, xs, rfl, SqL.of (Gz_sub _ _ s1), q th1 _ H1 (Fw.refl r1.ok) (walks_e (SqL.of s1) r2)⟩
    · cases e
end
end Eb

/-! Eb: exceptions made and raised. -/
namespace Eb
open PySem L2
open Evl (Ex ex_l ex_t)
/-! ### an own exception is made -/
section
variable {X : Cx} {pos p1 p2 : Pos}
/-- Base.__init__(self, ..), found in ValueError -/
theorem pe_beinit {x : Str} {C : Addr} {mc : Value} {e : Expr} {es : List Expr} {ta : TA} {pl : Sem Bool} (hg : Gl X x) (hm : X.mg x = some (.ref C)) (r : ClX.CRead X.K C mc)
    (k : PySem.W.findCls X.K (.ref C) mc "__init__" = some (.val (.builtin "ValueError.__init__"))) (ha : PA X (e :: es) ta) (hd : (x == ("__debug__" : Str)) = false := by decide)
    (hc : eval (.Call (.Attribute (.Name x p1) "__init__" p2) (e :: es) [] pos) X.env = (do let ov ← eval (.Name x p1) X.env; standAt p2.atName; let (f, first) ← holding [ov] (getMethod ov "__init__" pl); callWith pos f first (backTo pos (starEach (e :: es) X.env)) (backToKw pos (keywordEach [] X.env))) := by rfl)
    (he : starEach (e :: es) X.env = (false, eval e X.env) :: starEach es X.env := by rfl) (hpl : (backTo pos (starEach es X.env)).any (·.1) = false := by rfl) :
    PE X (.Call (.Attribute (.Name x p1) "__init__" p2) (e :: es) [] pos) (tVeI X.K ta) := by
  constructor
  intro pins s σ H Q I h
  refine PySem.W.methodCall_KW (ld_glob I hg hm (PySem.W.method_cls I.kIn r.ga (PySem.W.cls_value I.kIn r.rd k (by decide +kernel) ?_)) hd) hc
  show wpAny _ _ (callWith pos (Value.builtin "ValueError.__init__") [] (backTo pos (starEach (e :: es) X.env)) []) _ _ _
  refine PyProof.Rows.callWith_method1 (thn (ha.run pos pins _ σ H _ (I.tok _) h) fun us s1 z => ?_) he hpl
  obtain ⟨vs, H1, I1, rv, a, C', ws, rfl, hl, T, ea, q⟩ := z
  cases rv with
  | @cons _ u0 _ ur ra rr =>
    obtain rfl : u0 = Value.ref a := ra
    have hlen : ur.length ≤ sizeLine := by
      have z := Paired.length rr
      rw [sizeLine_eq]
      omega
    exact oinit_ok T I1 ea hlen fun s' J => ⟨.non, H1, J, rfl, q⟩
end
/-- fields stored one behind the other -/
def tOsts (K : PySem.W.Frag) : List (Str × Nat) → TS
  | [] => tNext
  | (f, i) :: r => tSeq (tOst K f (tVar 0) (tVar i)) (tOsts K r)
theorem osts_run {K : PySem.W.Frag} {C a dx : Addr} (T : OexC K C) {Dn : Ends} {σ : L2.St} (h0 : σ[0]? = some (some (.ref a))) (ne : dx ≠ a) :
    ∀ (l : List (Str × Nat)) (ws : List V) (H : Hp) (fs : List (Str × V)), H a = some (exo a C (some dx)) → H dx = some (exd dx fs) → fs.length + l.length ≤ 900 → (∀ p ∈ l, PySem.W.findIn K (.ref C) p.1 = some none) →
      l.length = ws.length → (∀ (j : Nat) p v, l[j]? = some p → ws[j]? = some v → σ[p.2]? = some (some v)) →
      (∀ H', H' a = some (exo a C (some dx)) → H' dx = some (exd dx (((l.map (·.1)).zip ws).reverse ++ fs)) → (∀ b, b ≠ a → b ≠ dx → H' b = H b) → Dn.nx σ H') → tOsts K l Dn σ H := by
  intro l
  induction l with
  | nil =>
    intro ws H fs ha hd _ _ hl _ k
    exact k H ha (by simpa using hd) fun _ _ _ => rfl
  | cons p l ih =>
    intro ws H fs ha hd hz hno hl hs k
    obtain ⟨f, i⟩ := p
    cases ws with
    | nil => simp at hl
    | cons v ws =>
      have hi : σ[i]? = some (some v) := hs 0 (f, i) v rfl rfl
      simp only [List.length_cons] at hz hl
      refine ⟨v, hi, .ref a, h0, a, C, rfl, T, hno (f, i) List.mem_cons_self, .inr ⟨dx, fs, ha, hd, by omega, ?_⟩⟩
      refine ih ws _ ((f, v) :: fs) ?_ upd_same (by simp only [List.length_cons]; omega) (fun p hp => hno p (List.mem_cons_of_mem _ hp)) (by omega) (fun j p w h1 h2 => hs (j + 1) p w (by simpa using h1) (by simpa using h2)) ?_
      · rw [upd_ne (Ne.symm ne)]; exact ha
      · intro H' e1 e2 e3
        refine k H' e1 ?_ fun b h1 h2 => by rw [e3 b h1 h2, upd_ne h2]
        rw [e2]
        simp
/-- an exception's own __init__, called on a new one -/
def spEI (g : Gam) (c n : Nat) : Sp := fun vs H Q _ => ∃ a ws, vs = .ref a :: ws ∧ ws.length = n ∧ H a = some (exo a (g.cls c) none) ∧
  ∀ dx H', H dx = none → dx ≠ a → H' a = some (exo a (g.cls c) (some dx)) → H' dx = some (exd dx ((g.flds c).zip ws.reverse)) → (∀ b, b ≠ a → b ≠ dx → H' b = H b) → Q .non H'
theorem ei_read {K : PySem.W.Frag} {g : Gam} {c n : Nat} {f1 : Str} {l : List (Str × Nat)} {N : List Str} (T : OexC K (g.cls c)) (hl : l.length + 1 = n) (hn : n ≤ 100) (hi : ∀ (j : Nat) p, ((f1, 1) :: l)[j]? = some p → p.2 = j + 1)
    (hno : ∀ p ∈ (f1, 1) :: l, PySem.W.findIn K (.ref (g.cls c)) p.1 = some none) (hrev : ∀ ws : List V, ws.length = n → ((((f1, 1) :: l).map (·.1)).zip ws).reverse = (g.flds c).zip ws.reverse)
    {vs : List V} {H : Hp} {Q : VK} {E : XK} (h : spEI g c n vs H Q E) : tSeq (tDrop (tVeI K (tCons (tVar 0) (tCons (tVar 1) tNil)))) (tOsts K ((f1, 1) :: l)) { nx := fun _ H' => Q .non H', rt := Q } (L2.start N vs) H := by
  obtain ⟨a, ws, rfl, hw, ha, k⟩ := h
  have slot : ∀ (j : Nat) v, (V.ref a :: ws)[j]? = some v → (L2.start N (V.ref a :: ws))[j]? = some (some v) := fun j v e => by
    unfold L2.start
    have hj := (List.getElem?_eq_some_iff.mp e).1
    rw [List.getElem?_append_left (by simpa using hj), List.getElem?_map, e]
    rfl
  cases ws with
  | nil => simp at hw; omega
  | cons w1 ws =>
    simp only [List.length_cons] at hw
    have s0 := slot 0 (.ref a) rfl
    have s1 := slot 1 w1 rfl
    refine ⟨.ref a, s0, w1, s1, a, g.cls c, [w1], rfl, by simp, T, ha, ?_⟩
    refine ⟨w1, s1, .ref a, s0, a, g.cls c, rfl, T, hno _ List.mem_cons_self, .inl ⟨ha, fun dx hx ne => ?_⟩⟩
    refine osts_run T s0 ne l ws _ [(f1, w1)] upd_same (by rw [upd_ne ne, upd_same]) (by simp only [List.length_cons, List.length_nil]; omega) (fun p hp => hno p (List.mem_cons_of_mem _ hp)) (by omega) (fun j p v h1 h2 => ?_) fun H' e1 e2 e3 => ?_
    · have z := hi (j + 1) p (by simpa using h1)
      rw [z]
      exact slot (j + 2) v (by simpa using h2)
    · refine k dx H' hx ne e1 ?_ fun b h1 h2 => ?_
      · rw [e2, ← hrev (w1 :: ws) (by simpa using hw)]
        simp
      · rw [e3 b h1 h2, upd_ne h1, upd_ne h2]
theorem RpL.snoc {g : Gam} {th : Th} {G : Hp} {ds : List D} {vs : List V} {d : D} {v : V} (h : RpL g th G ds vs) (h' : Rp g th G d v) : RpL g th G (ds ++ [d]) (vs ++ [v]) := RpL.append h ⟨v, [], rfl, h', rfl⟩
theorem RpL.rev {g : Gam} {th : Th} {G : Hp} : ∀ {ds : List D} {vs : List V}, RpL g th G ds vs → RpL g th G ds.reverse vs.reverse
  | [], vs, h => by
    rw [show vs = [] from h]
    exact rfl
  | d :: ds, vs, h => by
    obtain ⟨v, r, e1, e2, e3⟩ := h
    rw [e1, List.reverse_cons, List.reverse_cons]
    exact (RpL.rev e3).snoc e2
/-! ### raise -/
def sRaise (c n : Nat) (mr : M (List D)) : MS := bindS mr fun ds rh mu => if ds.length = n then some (.er ⟨c, ds.reverse⟩ rh, mu) else none
/-- .. of a class without own __init__ -/
def sRaise0 (c : Nat) : MS := fun rh mu => some (.er ⟨c, []⟩ rh, mu)
section
variable {X : Cx} {CX : CXT} {k : Nat} {f : Addr} {fd : FuncData} {ps : List Str} {g : Gam} {W : WX} {x : Str} {p p2 pos pos2 : Pos} {e : Expr} {es : List Expr} {mr : M (List D)}
theorem pm_raise (c n : Nat) (hn : n ≤ 100) (hc : X.calm = true) (tk : Takes X W) (T : OexC X.K (g.cls c)) (iC : PySem.W.findIn X.K (.ref (g.cls c)) "__init__" = some (some (.ref f))) (tI : PySem.W.typeIn X.K (.ref f) = some (.type "function"))
    (F : FnOk X.prog X.w X.K X.mg X.base CX k f fd ps (spEI g c n)) (hr : Room (k + 1) X.A) (hb : Binds X.K fd ps []) (hx : Passes CX X (fun _ _ _ => False)) (hm : X.mg x = some (.ref (g.cls c)))
    (ha : PA X (e :: es) (canA g W mr)) (hg : Gl X x := by rfl) (hdb : (x == ("__debug__" : Str)) = false := by decide) (he : starEach (e :: es) X.env = (false, eval e X.env) :: starEach es X.env := by rfl) (hpl : (backTo pos (starEach es X.env)).any (·.1) = false := by rfl) :
    PS X (.Raise (some (.Call (.Name x p) (e :: es) [] pos)) none pos2) (canS g W (sRaise c n mr)) :=
  PSimp (ps_raise hc tk (pmk_oex T iC tI F hr hb .nil hx hg hm ha hdb he hpl)) fun Dn σ H h => (canS_bind (R := RA g) h).imp fun vs H1 ⟨ds, rh, mu1, th1, hd, r1, o, mu', e1, q⟩ => by
    have e1 : (if ds.length = n then some (Out.er ⟨c, ds.reverse⟩ rh, mu1) else none) = some (o, mu') := e1
    split at e1
    · rename_i hl
      have e' := Option.some.inj e1
      cases e'
      have lv := hd.length
      refine ⟨by omega, fun a na => ⟨a, vs ++ [], rfl, by simpa [lv] using hl, upd_same, fun dx H2 hx ne e2 e3 e4 => ⟨rfl, dx, (g.flds c).zip (vs ++ []).reverse, e2, e3, ?_, ?_⟩⟩⟩
      · rw [upd_ne ne] at hx; exact hx
      · have hx : H1 dx = none := by rw [upd_ne ne] at hx; exact hx
        have eH : upd (del H2 a) dx (.xd ((g.flds c).zip (vs ++ []).reverse)) = upd H1 dx (.xd ((g.flds c).zip vs.reverse)) := by
          rw [List.append_nil]
          funext b
          by_cases hb : b = dx
          · subst hb; rw [upd_same, upd_same]
          · rw [upd_ne hb, upd_ne hb]
            by_cases ha : b = a
            · subst ha; rw [del_same, na]
            · rw [del_ne ha, e4 b ha hb, upd_ne ha]
        rw [eH]
        have ex : Ex H1 (upd H1 dx (.xd ((g.flds c).zip vs.reverse))) := Evl.Ex.new hx
        have fh := Fw.heap r1.ok ex
        refine q th1 _ _ σ _ fh (r1.fw fh) ⟨rfl, .inr ⟨dx, _, vs.reverse, rfl, ?_, rfl, (RpL.mono fh.pf fh.ex _ _ hd).rev⟩⟩
        unfold Gz
        rw [if_neg (r1.ok.new hx)]
        exact upd_same
    · cases e1
theorem pm_raise0 (c : Nat) {m : Str} {j : Nat} {bmB : List Value} {B newId initId : String} (hc : X.calm = true) (tk : Takes X W) (F : ExcBaseFacts B newId initId bmB) (hq : PySem.W.excIn X.K (g.cls c) bmB newId = true) (hm : X.mg x = some (.ref (g.cls c)))
    (kC : PySem.W.keepIn X.K (.ref (g.cls c)) = true) (h1 : PySem.W.subIn X.K (.ref (g.cls c)) (.type "BaseException") = some true) (h2 : PySem.W.typeIn X.K (.ref (g.cls c)) = some (.type "type")) (hg : Gl X x := by rfl) (hdb : (x == ("__debug__" : Str)) = false := by decide) :
    PS X (.Raise (some (.Call (.Name x p) [.Constant (.str m) j p2] [] pos)) none pos2) (canS g W (sRaise0 c)) :=
  PSimp (ps_raise hc tk (pmk_own F hq hm kC (raises_own h1 h2) hg hdb)) fun Dn σ H ⟨rh, mu, th, r, o, mu', e, q⟩ => by
    have e' : (Out.er ⟨c, []⟩ rh, mu) = (o, mu') := Option.some.inj e
    cases e'
    exact q th _ _ σ H (Fw.refl r.ok) r ⟨rfl, .inl ⟨rfl, rfl⟩⟩
end
end Eb

/-! Eb: exceptions caught. -/
namespace Eb
open PySem L2
open Evl (Ex ex_l ex_t)
/-- within a suite -/
def Gam.at (g : Gam) (z : Option (Addr × Nat × Option Addr)) : Gam := { g with xc := z }
/-! ### into a suite and out of it -/
section
variable {g : Gam} {z : Option (Addr × Nat × Option Addr)} {th : Th} {G H : Hp} {mu : Mu}
mutual
theorem Rp.up (hx : g.xc = none) : ∀ (d : D) (v : V), Rp g th G d v → Rp (g.at z) th G d v
  | .non, v, h => h
  | .bl _, v, h => h
  | .int _, v, h => h
  | .str _, v, h => h
  | .tup ds, v, h => by
    obtain ⟨a, xs, e1, e2, e3⟩ := h
    exact ⟨a, xs, e1, e2, RpL.up hx ds xs e3⟩
  | .lst ds, v, h => by
    obtain ⟨a, xs, e1, e2, e3⟩ := h
    exact ⟨a, xs, e1, e2, RpL.up hx ds xs e3⟩
  | .ins k ds, v, h => by
    obtain ⟨a, dx, ys, xs, e1, e2, e3, e4, e5⟩ := h
    exact ⟨a, dx, ys, xs, e1, e2, e3, e4, RpL.up hx ds xs e5⟩
  | .set ns, v, h => h
  | .cel k, v, h => h
  | .scr ns, v, h => h
  | .ty _, v, h => h
  | .cls _, v, h => h
  | .dic ks ds, v, h => by
    obtain ⟨a, o, xs, e1, e2, e3, e4, e5, e6⟩ := h
    exact ⟨a, o, xs, e1, e2, e3, e4, e5, RpL.up hx ds xs e6⟩
  | .exn _ _, v, h => by
    obtain ⟨a, dd, e1, _⟩ := h
    rw [hx] at e1; cases e1
theorem RpL.up (hx : g.xc = none) : ∀ (ds : List D) (vs : List V), RpL g th G ds vs → RpL (g.at z) th G ds vs
  | [], vs, h => h
  | d :: ds, vs, h => by
    obtain ⟨v, r, e1, e2, e3⟩ := h
    exact ⟨v, r, e1, Rp.up hx d v e2, RpL.up hx ds r e3⟩
end
mutual
/-- no caught exception within -/
def xf : D → Bool
  | .tup ds => xfL ds
  | .lst ds => xfL ds
  | .ins _ ds => xfL ds
  | .dic _ ds => xfL ds
  | .exn _ _ => false
  | .cel _ => true
  | .non => true
  | .bl _ => true
  | .int _ => true
  | .str _ => true
  | .set _ => true
  | .scr _ => true
  | .ty _ => true
  | .cls _ => true
def xfL : List D → Bool
  | [] => true
  | d :: ds => xf d && xfL ds
end
mutual
theorem Rp.dn : ∀ (d : D) (v : V), xf d = true → Rp (g.at z) th G d v → Rp g th G d v
  | .non, v, _, h => h
  | .bl _, v, _, h => h
  | .int _, v, _, h => h
  | .str _, v, _, h => h
  | .tup ds, v, c, h => by
    obtain ⟨a, xs, e1, e2, e3⟩ := h
    exact ⟨a, xs, e1, e2, RpL.dn ds xs c e3⟩
  | .lst ds, v, c, h => by
    obtain ⟨a, xs, e1, e2, e3⟩ := h
    exact ⟨a, xs, e1, e2, RpL.dn ds xs c e3⟩
  | .ins k ds, v, c, h => by
    obtain ⟨a, dx, ys, xs, e1, e2, e3, e4, e5⟩ := h
    exact ⟨a, dx, ys, xs, e1, e2, e3, e4, RpL.dn ds xs c e5⟩
  | .set ns, v, _, h => h
  | .cel k, v, _, h => h
  | .scr ns, v, _, h => h
  | .ty _, v, _, h => h
  | .cls _, v, _, h => h
  | .dic ks ds, v, c, h => by
    obtain ⟨a, o, xs, e1, e2, e3, e4, e5, e6⟩ := h
    exact ⟨a, o, xs, e1, e2, e3, e4, e5, RpL.dn ds xs c e6⟩
  | .exn _ _, v, c, h => by cases c
theorem RpL.dn : ∀ (ds : List D) (vs : List V), xfL ds = true → RpL (g.at z) th G ds vs → RpL g th G ds vs
  | [], vs, _, h => h
  | d :: ds, vs, c, h => by
    obtain ⟨v, r, e1, e2, e3⟩ := h
    have c : (xf d && xfL ds) = true := c
    rw [Bool.and_eq_true] at c
    exact ⟨v, r, e1, Rp.dn d v c.1 e2, RpL.dn ds r c.2 e3⟩
end
theorem CellOk.up {a : Addr} {c : Cell} (hx : g.xc = none) (h : CellOk g th G H a c) : CellOk (g.at z) th G H a c := by
  cases c with
  | lst ds => obtain ⟨xs, e1, e2⟩ := h; exact ⟨xs, e1, RpL.up hx _ _ e2⟩
  | dic ks ds => obtain ⟨xs, e1, e2, e3, e4, e5⟩ := h; exact ⟨xs, e1, e2, e3, e4, RpL.up hx _ _ e5⟩
  | ins k ds => obtain ⟨dx, ys, xs, e1, e2, e3, e4⟩ := h; exact ⟨dx, ys, xs, e1, e2, e3, RpL.up hx _ _ e4⟩
  | dead => trivial
def xfC : Cell → Bool
  | .lst ds => xfL ds
  | .dic _ ds => xfL ds
  | .ins _ ds => xfL ds
  | .dead => true
theorem CellOk.dn {a : Addr} {c : Cell} (f : xfC c = true) (h : CellOk (g.at z) th G H a c) : CellOk g th G H a c := by
  cases c with
  | lst ds => obtain ⟨xs, e1, e2⟩ := h; exact ⟨xs, e1, RpL.dn _ _ f e2⟩
  | dic ks ds => obtain ⟨xs, e1, e2, e3, e4, e5⟩ := h; exact ⟨xs, e1, e2, e3, e4, RpL.dn _ _ f e5⟩
  | ins k ds => obtain ⟨dx, ys, xs, e1, e2, e3, e4⟩ := h; exact ⟨dx, ys, xs, e1, e2, e3, RpL.dn _ _ f e4⟩
  | dead => trivial
theorem Ok.up (hx : g.xc = none) (o : Ok g th mu H) : Ok (g.at z) th mu H := ⟨o.len, o.nod, fun i a c e1 e2 => (o.cel i a c e1 e2).up hx, o.hid⟩
/-- cells that still hold the exception are forgotten -/
def kx (c : Cell) : Cell := if xfC c = true then c else .dead
theorem kx_live {c : Cell} (h : (kx c).live = true) : c.live = true := by
  unfold kx at h
  split at h
  · exact h
  · cases h
theorem own_kx : ∀ (ids : List Addr) (mu : Mu), (own ids (mu.map kx)).Sublist (own ids mu)
  | [], mu => by simp [own]
  | a :: ids, [] => by simp [own]
  | a :: ids, c :: mu => by
    show (own (a :: ids) (kx c :: mu.map kx)).Sublist (own (a :: ids) (c :: mu))
    unfold own
    by_cases h : (kx c).live = true
    · rw [if_pos h, if_pos (kx_live h)]; exact (own_kx ids mu).cons_cons _
    · rw [if_neg h]
      by_cases h' : c.live = true
      · rw [if_pos h']; exact (own_kx ids mu).cons _
      · rw [if_neg h']; exact own_kx ids mu
theorem gz_kx : Ex (Gz th mu H) (Gz th (mu.map kx) H) := fun a u q => by
  unfold Gz at q ⊢
  by_cases m : a ∈ own th.ids mu ∨ a ∈ th.hid
  · rw [if_pos m] at q; cases q
  · rw [if_neg m] at q
    rw [if_neg fun y => m (y.imp (fun y => (own_kx th.ids mu).subset y) id)]
    exact q
theorem Ok.dn (o : Ok (g.at z) th mu H) : Ok g th (mu.map kx) H := ⟨by simp [o.len], o.nod.sublist (own_kx _ _), fun i a c e1 e2 => by
  rw [List.getElem?_map] at e2
  cases hc : mu[i]? with
  | none => rw [hc] at e2; cases e2
  | some c0 =>
    rw [hc] at e2
    have e2 : kx c0 = c := Option.some.inj e2
    unfold kx at e2
    split at e2
    · rename_i f
      subst e2
      exact ((o.cel i a c0 e1 hc).dn f).mono Pfx.refl gz_kx rfl
    · subst e2
      trivial, fun a m => by
  obtain ⟨n, r⟩ := o.hid a m
  exact ⟨fun y => n ((own_kx th.ids mu).subset y), r⟩⟩
end
/-! ### try: .. except C as e: .. -/
def xfR : Rho → Bool
  | [] => true
  | none :: r => xfR r
  | some d :: r => xf d && xfR r
theorem xfR_get : ∀ {r : Rho} {i : Nat} {d : D}, xfR r = true → r[i]? = some (some d) → xf d = true
  | [], i, d, _, h => by simp at h
  | none :: r, 0, d, _, h => by simp at h
  | none :: r, i + 1, d, f, h => xfR_get (r := r) (i := i) f (by simpa using h)
  | some y :: r, 0, d, f, h => by
    have : y = d := by simpa using h
    subst this
    have f : (xf y && xfR r) = true := f
    rw [Bool.and_eq_true] at f
    exact f.1
  | some y :: r, i + 1, d, f, h => by
    have f : (xf y && xfR r) = true := f
    rw [Bool.and_eq_true] at f
    exact xfR_get (r := r) (i := i) f.2 (by simpa using h)
/-- what the clause does with an outcome -/
def exOut (i : Nat) : Option (Out × Mu) → Option (Out × Mu)
  | some (.nx r, mu) => if xfR (r.set i none) = true then some (.nx (r.set i none), mu.map kx) else none
  | some (.rt d, mu) => if xf d = true then some (.rt d, mu.map kx) else none
  | _ => none
def sTry (sb : MS) (t : Nat → Option Bool) (i : Nat) (ss : MS) : MS := fun rh mu => match sb rh mu with
  | some (.er x r, mu1) => match t x.c with
    | some true => exOut i (ss (r.set i (some (.exn x.c x.fs))) mu1)
    | some false => some (.er x r, mu1)
    | none => none
  | o => o
section
variable {X : Cx} {g : Gam} {W : WX} {x n : Str} {i : Nat} {body suite : List Stmt} {b₀ : Stmt} {np pos pos' : Pos} {sb ss : MS} {t : Nat → Option Bool}
/-- the suite, the exception at a, of the class cls, its dict at d -/
def tsX (g : Gam) (ss : MS) (a : Addr) (cls : Value) (d : Option Addr) : TS := fun Dn σ H => ∃ c, cls = .ref (g.cls c) ∧ canS (g.at (some (a, c, d))) (fun _ _ _ _ => False) ss Dn σ H
theorem pms_try {j : Nat} (hs : X.stack = X.env :: X.outer) (hf : X.env.frame = some X.env.locals) (hN : X.N.Nodup) (hi : X.N[i]? = some n) (hln : X.env.kindOf n = some .local) (hc : Names X x (.ref (g.cls j))) (tk : Takes X W) (hx : g.xc = none)
    (ht : ∀ c b, t c = some b → PySem.W.exmOne X.K (.ref (g.cls c)) (.ref (g.cls j)) = some b)
    (hb : ∀ (W' : WX) (pn : List (Addr × Obj)) (xe : Value → Shared → Prop), Takes (X.tr pn xe) W' → PassesOwn (model X.prog X.w) X.A X.env xe → PSs (X.tr pn xe) body (canS g W' sb))
    (hsu : ∀ (a : Addr) (oe : Obj) (c : Nat) (d : Option Addr) (pn : List (Addr × Obj)), Zc (.ref (g.cls c)) d oe → (∃ vs, oe.data = .fields vs) → PSs (X.suite a ((a, oe) :: pn)) (b₀ :: suite) (canS (g.at (some (a, c, d))) (fun _ _ _ _ => False) ss)) :
    PS X (.Try body [.ExceptHandler (some (.Name x np)) (some n) (b₀ :: suite) pos'] [] [] pos) (canS g W (sTry sb t i ss)) := by
  refine PSimp (ps_try_as (i := i) (ts := tsX g ss) (tb := fun W' => canS g W' sb) hs hf hN hi hln hc tk hb fun a oe cls d pn hz hv => ?_) fun Dn σ H h => ?_
  · constructor
    rintro pins s σ H Dn I ⟨c, rfl, h⟩
    exact (hsu a oe c d pn hz hv).run pins s σ H Dn I h
  · obtain ⟨rh, mu, th, r, o, mu', e, q⟩ := h
    refine ⟨rh, mu, th, r, ?_⟩
    unfold sTry at e
    cases hb0 : sb rh mu with
    | none => rw [hb0] at e; cases e
    | some p =>
      obtain ⟨ob, mub⟩ := p
      rw [hb0] at e
      refine ⟨ob, mub, hb0, ?_⟩
      cases ob with
      | nx r' => cases (Option.some.inj e); exact q
      | rt d => cases (Option.some.inj e); exact q
      | bk r' => cases (Option.some.inj e); exact q
      | ct r' => cases (Option.some.inj e); exact q
      | er x r' =>
        have e : (match t x.c with
          | some true => exOut i (ss (r'.set i (some (.exn x.c x.fs))) mub)
          | some false => some (.er x r', mub)
          | none => none) = some (o, mu') := e
        intro th1 cls dd σ1 H1 f1 r1 hx1
        cases htc : t x.c with
        | none => rw [htc] at e; cases e
        | some b =>
          rw [htc] at e
          have hcls := hx1.1
          refine ⟨b, by rw [hcls]; exact ht _ _ htc, fun hbt a na => ?_, fun hbf => ?_⟩
          · subst hbt
            refine ⟨x.c, hcls, r'.set i (some (.exn x.c x.fs)), mub, th1, ?_, ?_⟩
            · have ou := r1.ok.up (z := some (a, x.c, dd)) hx
              have ru : Rl (g.at (some (a, x.c, dd))) r' mub th1 σ1 H1 := ⟨ou, r1.len, fun k d ek => by
                obtain ⟨v, e1, e2⟩ := r1.slt k d ek
                exact ⟨v, e1, Rp.up hx d v e2⟩⟩
              refine ru.set i ⟨a, dd, rfl, rfl, ?_⟩
              rcases hx1.2 with ⟨h1, h2⟩ | ⟨da, ys, xs, h1, h2, h3, h4⟩
              · exact .inl ⟨h1, h2⟩
              · exact .inr ⟨da, ys, xs, h1, h2, h3, RpL.up hx _ _ h4⟩
            · have e : exOut i (ss (r'.set i (some (.exn x.c x.fs))) mub) = some (o, mu') := e
              cases hss : ss (r'.set i (some (.exn x.c x.fs))) mub with
              | none => rw [hss] at e; cases e
              | some p2 =>
                obtain ⟨o2, mu2⟩ := p2
                rw [hss] at e
                refine ⟨o2, mu2, hss, ?_⟩
                have back : ∀ th' H', Fw (g.at (some (a, x.c, dd))) th1 mub H1 th' mu2 H' → Fw g th mu H th' (mu2.map kx) H' := fun th' H' f =>
                  f1.trans ⟨f.pf, f.ok.dn, f.ex.trans gz_kx, f.hd⟩
                cases o2 with
                | nx r2 =>
                  have e : (if xfR (r2.set i none) = true then some (Out.nx (r2.set i none), mu2.map kx) else none) = some (o, mu') := e
                  split at e
                  · rename_i hr
                    cases (Option.some.inj e)
                    intro th' σ' H' f rl
                    refine q th' (σ'.set i none) H' (back th' H' f) ⟨f.ok.dn, by simp [rl.len], fun k d ek => ?_⟩
                    by_cases hk : k = i
                    · subst hk
                      by_cases hl : k < r2.length
                      · rw [List.getElem?_set_self hl] at ek; cases ek
                      · rw [List.getElem?_eq_none (by simpa using hl)] at ek; cases ek
                    · have fd := xfR_get hr ek
                      rw [List.getElem?_set_ne (Ne.symm hk)] at ek ⊢
                      obtain ⟨v, e1, e2⟩ := rl.slt k d ek
                      exact ⟨v, e1, (Rp.dn d v fd e2).mono Pfx.refl gz_kx⟩
                  · cases e
                | rt d =>
                  have e : (if xf d = true then some (Out.rt d, mu2.map kx) else none) = some (o, mu') := e
                  split at e
                  · rename_i fd
                    cases (Option.some.inj e)
                    intro th' v H' f hv
                    exact q th' v H' (back th' H' f) ((Rp.dn d v fd hv).mono Pfx.refl gz_kx)
                  · cases e
                | bk r2 => cases e
                | ct r2 => cases e
                | er x2 r2 => cases e
          · subst hbf
            cases (Option.some.inj e)
            exact q th1 cls dd σ1 H1 f1 r1 hx1
end
/-! ### isinstance of the exception, its fields -/
/-- the own exceptions: 2 to 6, all below 7 -/
def excSub (i j : Nat) : Bool := decide (i = j) || decide (j = 7)
/-- what an exception's class must say -/
structure ExcT (K : PySem.W.Frag) (C : Addr) (fs : List Str) : Prop where
  xf : XfC K C
  ic : (PySem.W.clsIn K C).isSome = true
  ca : PySem.W.findIn K (.ref C) "__class__" = some (some (.builtin "object.__class__"))
  hn : PySem.W.specialIn K (.builtin "object.__class__") "__get__" = some (some (.builtin "getset_descriptor.__get__"))
  ht : PySem.W.takesIn K (.builtin "object.__class__") = some true
  hm : PySem.W.mroIn K C (.type "object") = some true
  na : ∀ f ∈ fs, PySem.W.findIn K (.ref C) f = some none
/-- the own exceptions all together -/
structure ExcA (K : PySem.W.Frag) (cls : Nat → Addr) : Prop where
  cl : ∀ i, 2 ≤ i → i ≤ 6 → ExcT K (cls i) (fldsT i)
  one : ∀ i j, 2 ≤ i → i ≤ 6 → 2 ≤ j → j ≤ 7 → PySem.W.kitOne K (.ref (cls i)) (.ref (cls j)) = some (excSub i j)
  ve : ∀ i, 2 ≤ i → i ≤ 6 → PySem.W.kitOne K (.ref (cls i)) (.type "ValueError") = some true
  exm : ∀ i j, 2 ≤ i → i ≤ 6 → 2 ≤ j → j ≤ 7 → PySem.W.exmOne K (.ref (cls i)) (.ref (cls j)) = some (excSub i j)
/-- does the clause of the class j take one of the class c -/
def exT (j : Nat) (c : Nat) : Option Bool := if 2 ≤ c ∧ c ≤ 6 then some (excSub c j) else none
theorem ExcA.ht {K : PySem.W.Frag} {cls : Nat → Addr} (A : ExcA K cls) {j : Nat} (h1 : 2 ≤ j) (h2 : j ≤ 7) : ∀ c b, exT j c = some b → PySem.W.exmOne K (.ref (cls c)) (.ref (cls j)) = some b := fun c b e => by
  unfold exT at e
  split at e
  · rename_i h
    cases (Option.some.inj e)
    exact A.exm c j h.1 h.2 h1 h2
  · cases e
def clsNo : D → Option Nat
  | .cls n => if 2 ≤ n ∧ n ≤ 7 then some n else none
  | _ => none
def clsNos : List D → Option (List Nat)
  | [] => some []
  | d :: ds => (clsNo d).bind fun n => (clsNos ds).map (n :: ·)
def isED (_ : Mu) : List D → Option D
  | [.exn c _, .cls n] => if 2 ≤ c ∧ c ≤ 6 ∧ 2 ≤ n ∧ n ≤ 7 then some (.bl (excSub c n)) else none
  | [.exn c _, .tup ds] => if 2 ≤ c ∧ c ≤ 6 then (clsNos ds).map fun ns => .bl (ns.any (excSub c)) else none
  | [.exn c _, .ty "ValueError"] => if 2 ≤ c ∧ c ≤ 6 then some (.bl true) else none
  | _ => none
/-- the reading at the heap's level -/
def rIsX (K : PySem.W.Frag) (a C : Addr) (dd : Option Addr) : List V → Hp → VK → Prop := fun xs H Q => (dd = none ∨ ∃ da ys, dd = some da ∧ H da = some (.xd ys)) ∧ ∃ (b : Bool) (y : V), xs = [.ref a, y] ∧
  ((∃ cv, (∀ u, RelV y u → u = cv) ∧ PySem.W.kitOne K (.ref C) cv = some b) ∨ (∃ (p : Addr) (cs : List Addr), y = .ref p ∧ SqT K H p (cs.map V.ref) ∧ PySem.W.kitAny K (.ref C) (cs.map Value.ref) = some b)) ∧ Q (.bl b) H
section
variable {X : Cx} {g : Gam} {W : WX} {a : Addr} {oe : Obj} {c : Nat} {dd : Option Addr} {pn : List (Addr × Obj)}
theorem cr_isX {C : Addr} {fs : List Str} (T : ExcT X.K C fs) (hz : Zc (.ref C) dd oe) (hf : ∃ vs, oe.data = .fields vs) : CallR (X.suite a ((a, oe) :: pn)) (.builtin "isinstance") (rIsX X.K a C dd) := by
  intro pins s σ H xs us Q I r h
  obtain ⟨hd, b, y, rfl, hy, q⟩ := h
  obtain ⟨hget, _⟩ := I.pin (a, oe) (List.mem_append.mpr (.inl List.mem_cons_self))
  obtain ⟨vs, hv⟩ := hf
  have no : PySem.W.notCls oe = true := by unfold PySem.W.notCls; rw [hv] <;> rfl
  have J : ∃ od, PySem.W.InstAt s.heap a oe C od := by
    rcases hd with hd | ⟨da, ys, hd, hH⟩
    · exact ⟨none, hget, hz.1, no, by rw [hz.2, hd]; trivial⟩
    · have hx : ObjOk X.prog X.w H s.heap da (.xd ys) := I.hok da _ hH
      obtain ⟨mA, hns, _⟩ := hx
      obtain ⟨od, ho, _⟩ := lookIn_ns hns
      exact ⟨some od, hget, hz.1, no, by rw [hz.2, hd]; exact ho⟩
  obtain ⟨od, J⟩ := J
  have Z := PySem.W.kitx_exc (x := a) (ox := oe) (od := od) T.ic T.xf.ga T.xf.gg T.xf.exC T.ca T.hn T.ht T.hm
  have fin : ∀ tk, EP (X.suite a ((a, oe) :: pn)) pins σ Q (.bool b) { s with toks := tk } := fun tk => ⟨.bl b, H, I.kept (t' := tk) fun _ _ z => z, rfl, q⟩
  cases r with
  | cons rx rr =>
    cases rr with
    | cons rt rr =>
      cases rr
      cases rx
      rcases hy with ⟨cv, hcv, e⟩ | ⟨p, cs, rfl, hs, e⟩
      · have ec := hcv _ rt
        subst ec
        exact PySem.W.kia_one Z I.kIn J e (fun z => nomatch z) fin
      · cases rt
        obtain ⟨its, rv, ht, _⟩ := I.tuple hs
        have ei := Eb.vals_refs rv
        subst ei
        obtain ⟨⟨ocl, odi, oda, osl⟩, ho, hc, n, hdt⟩ := ht
        dsimp only at hc hdt
        subst hc hdt
        exact PySem.W.kia_tup Z I.kIn J ho e (fun z => nomatch z) fin
theorem clsNos_eq {th : Th} {G : Hp} : ∀ {ds : List D} {vs : List V} {ns : List Nat}, RpL g th G ds vs → clsNos ds = some ns → vs = (ns.map g.cls).map V.ref ∧ ∀ n ∈ ns, 2 ≤ n ∧ n ≤ 7
  | [], vs, ns, h, e => by
    cases (Option.some.inj e)
    exact ⟨h, fun n hn => by cases hn⟩
  | d :: ds, vs, ns, h, e => by
    obtain ⟨v, r, rfl, h1, h2⟩ := h
    have e : (clsNo d).bind (fun n => (clsNos ds).map (n :: ·)) = some ns := e
    cases hd : clsNo d with
    | none => rw [hd] at e; cases e
    | some n =>
      rw [hd] at e
      have e : (clsNos ds).map (n :: ·) = some ns := e
      cases hds : clsNos ds with
      | none => rw [hds] at e; cases e
      | some ms =>
        rw [hds] at e
        cases (Option.some.inj e)
        obtain ⟨rfl, hm⟩ := clsNos_eq h2 hds
        unfold clsNo at hd
        split at hd
        · split at hd
          · rename_i hb
            cases (Option.some.inj hd)
            have h1 : v = .ref (g.cls n) := h1
            subst h1
            exact ⟨rfl, fun m hm' => by
              rcases List.mem_cons.mp hm' with rfl | z
              · exact hb
              · exact hm m z⟩
          · cases hd
        · cases hd
theorem kitAny_eq {K : PySem.W.Frag} {cls : Nat → Addr} (A : ExcA K cls) {c : Nat} (h1 : 2 ≤ c) (h2 : c ≤ 6) : ∀ ns : List Nat, (∀ n ∈ ns, 2 ≤ n ∧ n ≤ 7) → PySem.W.kitAny K (.ref (cls c)) ((ns.map cls).map Value.ref) = some (ns.any (excSub c))
  | [], _ => rfl
  | n :: ns, h => by
    have hn := h n List.mem_cons_self
    have e := A.one c n h1 h2 hn.1 hn.2
    have ih := kitAny_eq A h1 h2 ns fun m hm => h m (List.mem_cons_of_mem _ hm)
    show PySem.W.kitAny K (.ref (cls c)) (.ref (cls n) :: (ns.map cls).map Value.ref) = _
    unfold PySem.W.kitAny
    rw [e, List.any_cons]
    cases excSub c n with
    | true => rfl
    | false => simpa using ih
theorem cm_isE (A : ExcA X.K g.cls) (hx : g.xc = some (a, c, dd)) (hK : X.K = g.K) (hz : Zc (.ref (g.cls c)) dd oe) (hf : ∃ vs, oe.data = .fields vs) : CallM (X.suite a ((a, oe) :: pn)) g (.builtin "isinstance") (pureF isED) := by
  by_cases hc : 2 ≤ c ∧ c ≤ 6
  · refine .mk' (cr_isX (A.cl c hc.1 hc.2) hz hf) fun th mu H ds vs d o hd e Q q => ?_
    have key : ∀ {c' : Nat} {fs : List D} {v : V}, Rp g th (Gz th mu H) (.exn c' fs) v → c' = c ∧ v = .ref a ∧ (dd = none ∨ ∃ da ys, dd = some da ∧ H da = some (.xd ys)) := fun {c' fs v} h => by
      obtain ⟨a', dd', e1, e2, e3⟩ := h
      rw [hx] at e1
      cases (Option.some.inj e1)
      refine ⟨rfl, e2, ?_⟩
      rcases e3 with ⟨_, e3⟩ | ⟨da, ys, xs, e3, e4, _⟩
      · exact .inl e3
      · exact .inr ⟨da, ys, e3, Gz_sub _ _ e4⟩
    unfold isED at e
    split at e
    · rename_i c' fs n
      split at e
      · rename_i hb
        cases (Option.some.inj e)
        obtain ⟨v, w, rfl, hv, hw⟩ := rpL2 hd
        obtain ⟨rfl, rfl, hdd⟩ := key hv
        have hw : w = .ref (g.cls n) := hw
        subst hw
        exact ⟨hdd, _, _, rfl, .inl ⟨.ref (g.cls n), fun u r => r, A.one c' n hb.1 hb.2.1 hb.2.2.1 hb.2.2.2⟩, q _ H (fun _ _ z => z) rfl⟩
      · cases e
    · rename_i c' fs es
      split at e
      · rename_i hb
        obtain ⟨v, w, rfl, hv, hw⟩ := rpL2 hd
        obtain ⟨rfl, rfl, hdd⟩ := key hv
        cases hn : clsNos es with
        | none => rw [hn] at e; cases e
        | some ns =>
          rw [hn] at e
          cases (Option.some.inj e)
          obtain ⟨p, xs, rfl, hs, hr, _⟩ := sqT_of hw
          obtain ⟨rfl, hm⟩ := clsNos_eq hr hn
          exact ⟨hdd, _, _, rfl, .inr ⟨p, ns.map g.cls, rfl, by rw [hK]; exact hs, kitAny_eq A hb.1 hb.2 ns hm⟩, q _ H (fun _ _ z => z) rfl⟩
      · cases e
    · rename_i c' fs
      split at e
      · rename_i hb
        cases (Option.some.inj e)
        obtain ⟨v, w, rfl, hv, hw⟩ := rpL2 hd
        obtain ⟨rfl, rfl, hdd⟩ := key hv
        have hw : w = .ty "ValueError" := hw
        subst hw
        exact ⟨hdd, _, _, rfl, .inl ⟨.type "ValueError", fun u r => r, A.ve c' hb.1 hb.2⟩, q _ H (fun _ _ z => z) rfl⟩
      · cases e
    · cases e
  · -- no such exception: nothing is promised
    refine ⟨fun _ _ _ => False, fun pins s σ H xs us Q I r h => h.elim, fun th mu H ds vs d mu' o hd e Q q => ?_⟩
    have no : ∀ {c' : Nat} {fs : List D} {v : V}, Rp g th (Gz th mu H) (.exn c' fs) v → ¬ (2 ≤ c' ∧ c' ≤ 6) := fun {c' fs v} h z => by
      obtain ⟨a', dd', e1, _⟩ := h
      rw [hx] at e1
      cases (Option.some.inj e1)
      exact hc z
    unfold pureF isED at e
    split at e
    · obtain ⟨v, w, rfl, hv, hw⟩ := rpL2 hd
      split at e
      · rename_i hb; exact no hv ⟨hb.1, hb.2.1⟩
      · cases e
    · obtain ⟨v, w, rfl, hv, hw⟩ := rpL2 hd
      split at e
      · rename_i hb; exact no hv hb
      · cases e
    · obtain ⟨v, w, rfl, hv, hw⟩ := rpL2 hd
      split at e
      · rename_i hb; exact no hv hb
      · cases e
    · cases e
/-- e.f -/
def mXf (f : Str) (ma : ME) : ME := bindM ma fun d => lift fun _ => match d with
  | .exn c fs => if 2 ≤ c ∧ c ≤ 6 then ((fldsT c).zip fs).lookup f else none
  | _ => none
theorem lookup_rp {th : Th} {G : Hp} {f : Str} {d : D} : ∀ {ns : List Str} {fs : List D} {xs : List V}, RpL g th G fs xs → (ns.zip fs).lookup f = some d → f ∈ ns ∧ ∃ v, (ns.zip xs).lookup f = some v ∧ Rp g th G d v
  | [], fs, xs, h, e => by simp at e
  | n :: ns, [], xs, h, e => by simp at e
  | n :: ns, y :: fs, xs, h, e => by
    obtain ⟨v, r, rfl, h1, h2⟩ := h
    rw [List.zip_cons_cons, List.lookup_cons] at e
    rw [List.zip_cons_cons, List.lookup_cons]
    cases hb : (f == n) with
    | true =>
      rw [hb] at e
      cases (Option.some.inj e)
      exact ⟨by simp [beq_iff_eq.mp hb], v, rfl, h1⟩
    | false =>
      rw [hb] at e
      obtain ⟨q1, q2⟩ := lookup_rp h2 e
      exact ⟨List.mem_cons_of_mem _ q1, q2⟩
theorem pm_xf {e : Expr} {ma : ME} {pos : Pos} {f : Str} (A : ExcA X.K g.cls) (hfl : g.flds = fldsT) (hx : g.xc = some (a, c, dd)) (hz : Zc (.ref (g.cls c)) dd oe) (hf : ∃ vs, oe.data = .fields vs)
    (he : PE (X.suite a ((a, oe) :: pn)) e (canE g W ma)) (hb : attributeBase e f X.env (eval e X.env) = eval e X.env := by rfl) : PE (X.suite a ((a, oe) :: pn)) (.Attribute e f pos) (canE g W (mXf f ma)) := by
  by_cases hc : (2 ≤ c ∧ c ≤ 6) ∧ f ∈ fldsT c
  · have T := A.cl c hc.1.1 hc.1.2
    refine PEimp (pe_xf T.xf (T.na f hc.2) hz hf he hb) fun σ H Q h => (can_bind (R := RE g) h).imp fun v H1 ⟨d, rh, mu1, th1, hd, r1, h1⟩ => ?_
    obtain ⟨y, e1, q⟩ := canAt_lift r1 h1
    split at e1
    · rename_i c' fs
      split at e1
      · obtain ⟨a', dd', e2, rfl, e3⟩ := hd
        rw [hx] at e2
        cases (Option.some.inj e2)
        rcases e3 with ⟨rfl, _⟩ | ⟨da, ys, xs, e3, e4, e5, e6⟩
        · simp at e1
        · obtain ⟨_, u, l, hr⟩ := lookup_rp e6 e1
          refine ⟨rfl, rfl, da, ys, u, e3, Gz_sub _ _ e4, by rw [e5, hfl]; exact l, q th1 u H1 (Fw.refl r1.ok) hr⟩
      · cases e1
    · cases e1
  · constructor
    intro pins s σ H Q I h
    refine attr_of hb (thn (he.run pins s σ H (fun _ _ => False) I ?_) fun u s1 ⟨_, _, _, _, z⟩ => z.elim)
    refine (can_bind (R := RE g) h).imp fun v H1 ⟨d, rh, mu1, th1, hd, r1, h1⟩ => ?_
    obtain ⟨y, e1, q⟩ := canAt_lift r1 h1
    split at e1
    · rename_i c' fs
      split at e1
      · rename_i hb2
        obtain ⟨a', dd', e2, rfl, e3⟩ := hd
        rw [hx] at e2
        cases (Option.some.inj e2)
        rcases e3 with ⟨rfl, _⟩ | ⟨da, ys, xs, e3, e4, e5, e6⟩
        · simp at e1
        · exact hc ⟨hb2, (lookup_rp e6 e1).1⟩
      · cases e1
    · cases e1
/-- an own class as a value -/
theorem pm_gcls {X : Cx} {x : Str} {n : Nat} {pos : Pos} (hm : X.mg x = some (.ref (g.cls n))) (hg : Gl X x := by rfl) (hd : (x == ("__debug__" : Str)) = false := by decide) : PE X (.Name x pos) (canE g W (mC (.cls n))) :=
  pm_glob (d := .cls n) (v := .ref (g.cls n)) (fun _ _ => rfl) hm rfl hg hd
end
theorem bt_ve : bootBuiltins "ValueError" = some (.type "ValueError") := by decide +kernel
end Eb
namespace Eb
open PySem L2
/-- an exception's own __init__ stands in the text -/
structure EIAt (K : PySem.W.Frag) (C : Addr) (qual : Str) (st : Stmt) (ps fs : List Str) : Prop where
  ex : ∃ f fd, OexC K C ∧ PySem.W.findIn K (.ref C) "__init__" = some (some (.ref f)) ∧ PySem.W.typeIn K (.ref f) = some (.type "function") ∧ Fun K "__init__" qual st f fd ∧ Binds K fd ps []
  na : ∀ f ∈ fs, PySem.W.findIn K (.ref C) f = some none
/-- .. keeps its promise -/
structure EICal (P : Program) (w : World) (K : PySem.W.Frag) (mg : Str → Option Value) (base : Heap) (cls : Nat → Addr) (c n : Nat) (k : Nat) (ps : List Str) : Prop where
  ex : ∃ f fd, OexC K (cls c) ∧ PySem.W.findIn K (.ref (cls c)) "__init__" = some (some (.ref f)) ∧ PySem.W.typeIn K (.ref f) = some (.type "function") ∧ Binds K fd ps [] ∧ FnOk P w K mg base (L2.CX P w) k f fd ps (spEI (gam P w K cls) c n)
/-- the base of the own exceptions -/
structure BaseI (K : PySem.W.Frag) (C : Addr) : Prop where
  rd : ClX.CRead K C (.type "type")
  fi : PySem.W.findCls K (.ref C) (.type "type") "__init__" = some (.val (.builtin "ValueError.__init__"))
/-- an own exception without own __init__ -/
structure OwnE (K : PySem.W.Frag) (C : Addr) : Prop where
  ei : PySem.W.excIn K C [.type "ValueError", .type "Exception", .type "BaseException", .type "object"] "ValueError.__new__" = true
  kC : PySem.W.keepIn K (.ref C) = true
  exC : PySem.W.subIn K (.ref C) (.type "BaseException") = some true
  tyC : PySem.W.typeIn K (.ref C) = some (.type "type")
end Eb
namespace Eb
open PySem L2
theorem MCal.fz {P : Program} {w : World} {K : PySem.W.Frag} {mg : Str → Option Value} {base : Heap} {cls : Nat → Addr} {c k : Nat} {ps : List Str} {ph : Phi} {x : Str} (h : MCal P w K mg base cls c x k ps ph) : MCal P w K mg base cls c x k ps (mFz ph) := by
  obtain ⟨f, fd, h1, h2, h3⟩ := h.ex
  exact ⟨f, fd, h1, h2, Eb.FnOk.fz h3⟩
end Eb

/-! Eb: what the defs compute. Printed by gen.py. -/
namespace Eb
open PySem
/-- taken(row, many); slots: row many cell -/
def m_lw_taken : Phi := mBody 2 3 (sSeq (sPut (mVar 0) (mC (.int 1)) (mOp addD (mOp ixD (mVar 0) (mC (.int 1))) (mC (.int 1)))) (sSeq (sIf (mTest (mOp gtD (mOp ixD (mVar 0) (mC (.int 1))) (mCB (pureF lenD) (mCons (mOp ixD (mVar 0) (mC (.int 0))) (mNil))))) (sSeq (sPut (mVar 0) (mC (.int 2)) (mOp modD (mOp addD (mOp mulD (mOp ixD (mVar 0) (mC (.int 2))) (mC (.int 48271))) (mC (.int 11))) (mC (.int 2147483647)))) (sRet (mOp modD (mOp fdivD (mOp ixD (mVar 0) (mC (.int 2))) (mC (.int 7))) (mVar 1)))) (sSkip)) (sSeq (sAsg (mOp ixD (mOp ixD (mVar 0) (mC (.int 0))) (mOp subD (mOp ixD (mVar 0) (mC (.int 1))) (mC (.int 1)))) (tNm 2)) (sSeq (sPut (mVar 0) (mC (.int 2)) (mOp modD (mOp addD (mOp addD (mOp mulD (mOp ixD (mVar 0) (mC (.int 2))) (mC (.int 48271))) (mVar 2)) (mC (.int 11))) (mC (.int 2147483647)))) (sRet (mOp modD (mVar 2) (mVar 1)))))))
/-- names(row); slots: row turn shift signs base k -/
def m_lw_names : Phi := mBody 1 6 (sSeq (sAsg (mCall m_lw_taken (mCons (mVar 0) (mCons (mC (.int 26)) (mNil)))) (tNm 1)) (sSeq (sAsg (mCall m_lw_taken (mCons (mVar 0) (mCons (mC (.int 8)) (mNil)))) (tNm 2)) (sSeq (sAsg (mLc [5] (mRng1 (mCons (mC (.int 11)) (mNil))) (tNm 5) (mYes) (mOp ixD (mC (.str "abcdefghijklmnopqrstuvwxyz")) (mOp modD (mOp addD (mVar 1) (mOp mulD (mC (.int 5)) (mVar 5))) (mC (.int 26))))) (tNm 3)) (sSeq (sAsg (mBM isStr joinF (mC (.str "")) (mCons (mSl (mVar 3) (mPart (mC (.int 4))) (mNoP)) (mNil))) (tNm 4)) (sRet (mLc [5] (mRng1 (mCons (mC (.int 4)) (mNil))) (tNm 5) (mYes) (mOp addD (mSl (mVar 4) (mNoP) (mPart (mOp modD (mOp addD (mVar 2) (mOp mulD (mC (.int 3)) (mVar 5))) (mC (.int 8))))) (mOp ixD (mVar 3) (mVar 5)))))))))
/-- person(row, name, zones); slots: row name zones free_here led zone way most since goal -/
def m_lw_person : Phi := mBody 3 10 (sSeq (sAsg (mLstC (mNil)) (tNm 3)) (sSeq (sAsg (mLstC (mNil)) (tNm 4)) (sSeq (sFor (mRng2 (mCons (mC (.int 1)) (mCons (mVar 2) (mNil)))) (tNm 5) (sSeq (sAsg (mCall m_lw_taken (mCons (mVar 0) (mCons (mC (.int 5)) (mNil)))) (tNm 6)) (sIf (mTest (mOp ltD (mVar 6) (mC (.int 2)))) (sDrop (mBM isCell appF (mVar 3) (mCons (mVar 5) (mNil)))) (sIf (mTest (mOp ltD (mVar 6) (mC (.int 4)))) (sDrop (mBM isCell appF (mVar 4) (mCons (mVar 5) (mNil)))) (sSkip))))) (sSeq (sFrz 3) (sSeq (sFrz 4) (sSeq (sAsg (mOp ixD (mLst (mCons (mC (.int 0)) (mCons (mC (.int 0)) (mCons (mC (.int 1)) (mCons (mC (.int 2)) (mCons (mCall m_lw_taken (mCons (mVar 0) (mCons (mC (.int 5)) (mNil)))) (mNil))))))) (mCall m_lw_taken (mCons (mVar 0) (mCons (mC (.int 5)) (mNil))))) (tNm 7)) (sSeq (sAsg (mOp ixD (mLst (mCons (mC (.int 0)) (mCons (mC (.int 0)) (mCons (mC (.int 0)) (mCons (mCall m_lw_taken (mCons (mVar 0) (mCons (mC (.int 9)) (mNil)))) (mNil)))))) (mCall m_lw_taken (mCons (mVar 0) (mCons (mC (.int 4)) (mNil))))) (tNm 8)) (sSeq (sAsg (mOp ixD (mLst (mCons (mOp subD (mVar 2) (mC (.int 1))) (mCons (mOp subD (mVar 2) (mC (.int 1))) (mCons (mOp subD (mCall m_lw_taken (mCons (mVar 0) (mCons (mOp addD (mVar 2) (mC (.int 1))) (mNil)))) (mC (.int 1))) (mNil))))) (mCall m_lw_taken (mCons (mVar 0) (mCons (mC (.int 3)) (mNil))))) (tNm 9)) (sRet (mTup (mCons (mVar 1) (mCons (mC (.int 0)) (mCons (mVar 9) (mCons (mVar 7) (mCons (mVar 8) (mCons (mCB (pureF tupleD) (mCons (mVar 3) (mNil))) (mCons (mCB (pureF tupleD) (mCons (mVar 4) (mNil))) (mNil))))))))))))))))))
/-- free(house_here, person_here, zone); slots: house_here person_here zone -/
def m_lw_free : Phi := mBody 3 3 (sRet (mOrV (mOp eqD (mVar 2) (mC (.int 0))) (mOp inD (mVar 2) (mOp ixD (mOp ixD (mOp ixD (mVar 0) (mC (.int 3))) (mVar 1)) (mC (.int 5))))))
/-- left(house_here, state); slots: house_here state person_here zone here bound hands k -/
def m_lw_left : Phi := mBody 2 8 (sSeq (sFor (mRng1 (mCons (mCB (pureF lenD) (mCons (mVar 1) (mNil))) (mNil))) (tNm 2) (sSeq (sAsg (mOp ixD (mVar 1) (mVar 2)) (tNm 3)) (sIf (mNot (mTest (mCall (mPure m_lw_free) (mCons (mVar 0) (mCons (mVar 2) (mCons (mVar 3) (mNil))))))) (sSeq (sAsg (mLc [7] (mRng1 (mCons (mCB (pureF lenD) (mCons (mVar 1) (mNil))) (mNil))) (tNm 7) (mTest (mOp eqD (mOp ixD (mVar 1) (mVar 7)) (mVar 3))) (mVar 7)) (tNm 4)) (sSeq (sAsg (mLc [7] (mItems (mVar 4)) (tNm 7) (mNot (mTest (mCall (mPure m_lw_free) (mCons (mVar 0) (mCons (mVar 7) (mCons (mVar 3) (mNil))))))) (mVar 7)) (tNm 5)) (sSeq (sAsg (mCB (pureF sumD) (mCons (mLc [7] (mItems (mVar 4)) (tNm 7) (mTest (mOp notinD (mVar 7) (mVar 5))) (mOp ixD (mOp ixD (mOp ixD (mVar 0) (mC (.int 3))) (mVar 7)) (mC (.int 3)))) (mNil))) (tNm 6)) (sIf (mOr (mTest (mOp notinD (mVar 3) (mOp ixD (mOp ixD (mOp ixD (mVar 0) (mC (.int 3))) (mVar 2)) (mC (.int 6))))) (mTest (mOp gtD (mCB (pureF lenD) (mCons (mVar 5) (mNil))) (mVar 6)))) (sRet (mVar 2)) (sSkip))))) (sSkip)))) (sRet (mC .non)))
/-- house(row); slots: row zones doors k one other opens shuts names_here many people hours house_here state person_here -/
def m_lw_house : Phi := mBody 1 15 (sSeq (sAsg (mOp ixD (mLst (mCons (mC (.int 2)) (mCons (mC (.int 3)) (mCons (mC (.int 3)) (mCons (mC (.int 4)) (mCons (mC (.int 1)) (mNil))))))) (mCall m_lw_taken (mCons (mVar 0) (mCons (mC (.int 5)) (mNil))))) (tNm 1)) (sSeq (sAsg (mLstC (mNil)) (tNm 2)) (sSeq (sFor (mRng1 (mCons (mOp mulD (mCall m_lw_taken (mCons (mVar 0) (mCons (mOp ixD (mLst (mCons (mC (.int 5)) (mCons (mC (.int 7)) (mNil)))) (mCall m_lw_taken (mCons (mVar 0) (mCons (mC (.int 2)) (mNil))))) (mNil)))) (mCB (pureF intD) (mCons (mOp gtD (mVar 1) (mC (.int 1))) (mNil)))) (mNil))) (tNm 3) (sSeq (sAsg (mCall m_lw_taken (mCons (mVar 0) (mCons (mOp subD (mVar 1) (mC (.int 1))) (mNil)))) (tNm 4)) (sSeq (sAsg (mOp addD (mOp addD (mVar 4) (mC (.int 1))) (mCall m_lw_taken (mCons (mVar 0) (mCons (mOp subD (mOp subD (mVar 1) (mC (.int 1))) (mVar 4)) (mNil))))) (tNm 5)) (sSeq (sAsg (mOp ixD (mLst (mCons (mC (.int 0)) (mCons (mC (.int 0)) (mCons (mCall m_lw_taken (mCons (mVar 0) (mCons (mC (.int 8)) (mNil)))) (mNil))))) (mCall m_lw_taken (mCons (mVar 0) (mCons (mC (.int 3)) (mNil))))) (tNm 6)) (sSeq (sAsg (mOp ixD (mLst (mCons (mC (.int 8)) (mCons (mOp addD (mOp addD (mVar 6) (mC (.int 1))) (mCall m_lw_taken (mCons (mVar 0) (mCons (mOp subD (mC (.int 8)) (mVar 6)) (mNil))))) (mNil)))) (mCall m_lw_taken (mCons (mVar 0) (mCons (mC (.int 2)) (mNil))))) (tNm 7)) (sDrop (mBM isCell appF (mVar 2) (mCons (mTup (mCons (mVar 4) (mCons (mVar 5) (mCons (mOp ixD (mLst (mCons (mC (.int 1)) (mCons (mC (.int 2)) (mCons (mC (.int 2)) (mCons (mC (.int 3)) (mCons (mC (.int 4)) (mNil))))))) (mCall m_lw_taken (mCons (mVar 0) (mCons (mC (.int 5)) (mNil))))) (mCons (mVar 6) (mCons (mVar 7) (mNil))))))) (mNil))))))))) (sSeq (sFrz 2) (sSeq (sAsg (mCall (mRow m_lw_names) (mCons (mVar 0) (mNil))) (tNm 8)) (sSeq (sAsg (mOp addD (mC (.int 1)) (mCall m_lw_taken (mCons (mVar 0) (mCons (mC (.int 4)) (mNil))))) (tNm 9)) (sSeq (sAsg (mLc [3] (mRng1 (mCons (mVar 9) (mNil))) (tNm 3) (mYes) (mCall (mRow m_lw_person) (mCons (mVar 0) (mCons (mOp ixD (mVar 8) (mVar 3)) (mCons (mVar 1) (mNil)))))) (tNm 10)) (sSeq (sAsg (mCall m_lw_taken (mCons (mVar 0) (mCons (mOp subD (mOp ixD (mLst (mCons (mC (.int 9)) (mCons (mC (.int 6)) (mCons (mC (.int 6)) (mCons (mC (.int 4)) (mNil)))))) (mOp subD (mVar 9) (mC (.int 1)))) (mCB (pureF intD) (mCons (mOp eqD (mVar 1) (mC (.int 4))) (mNil)))) (mNil)))) (tNm 11)) (sSeq (sIf (mAnd (mTest (mOp ltD (mCB (pureF lenD) (mCons (mVar 2) (mNil))) (mC (.int 3)))) (mTest (mOp eqD (mCall m_lw_taken (mCons (mVar 0) (mCons (mC (.int 4)) (mNil)))) (mC (.int 3))))) (sAsg (mOp addD (mC (.int 5)) (mCall m_lw_taken (mCons (mVar 0) (mCons (mC (.int 4)) (mNil))))) (tNm 11)) (sSkip)) (sSeq (sAsg (mTup (mCons (mVar 1) (mCons (mVar 11) (mCons (mVar 2) (mCons (mVar 10) (mNil)))))) (tNm 12)) (sSeq (sAsg (mCB (pureF tupleD) (mCons (mLc [14] (mItems (mVar 10)) (tNm 14) (mYes) (mCall m_lw_taken (mCons (mVar 0) (mCons (mVar 1) (mNil))))) (mNil))) (tNm 13)) (sSeq (sIf (mAnd (mTest (mOp eqD (mCall m_lw_taken (mCons (mVar 0) (mCons (mC (.int 3)) (mNil)))) (mC (.int 0)))) (mTest (mOp isD (mCall (mPure m_lw_left) (mCons (mVar 12) (mCons (mVar 13) (mNil)))) (mC .non)))) (sAsg (mLc [3] (mRng1 (mCons (mVar 9) (mNil))) (tNm 3) (mYes) (mOp addD (mOp addD (mSl (mOp ixD (mVar 10) (mVar 3)) (mNoP) (mPart (mC (.int 1)))) (mTup (mCons (mOp ixD (mVar 13) (mVar 3)) (mNil)))) (mSl (mOp ixD (mVar 10) (mVar 3)) (mPart (mC (.int 2))) (mNoP)))) (tNm 10)) (sSkip)) (sRet (mTup (mCons (mVar 1) (mCons (mVar 11) (mCons (mVar 2) (mCons (mVar 10) (mNil)))))))))))))))))))
/-- must(good, word, number); slots: good word number -/
def m_must : Phi := mBody 3 3 (sIf (mNot (mTest (mVar 0))) (sRaise 2 2 (mCons (mVar 1) (mCons (mVar 2) (mNil)))) (sSkip))
/-- is_free(house, person, zone); slots: house person zone -/
def m_is_free : Phi := mBody 3 3 (sRet (mOrV (mOp eqD (mVar 2) (mC (.int 0))) (mOp inD (mVar 2) (mOp ixD (mOp ixD (mFld 0 3 (mVar 0)) (mVar 1)) (mC (.int 5))))))
/-- may_be(house, person, zone); slots: house person zone -/
def m_may_be : Phi := mBody 3 3 (sRet (mOrV (mCall m_is_free (mCons (mVar 0) (mCons (mVar 1) (mCons (mVar 2) (mNil))))) (mOp inD (mVar 2) (mOp ixD (mOp ixD (mFld 0 3 (mVar 0)) (mVar 1)) (mC (.int 6))))))
/-- led_ones(house, persons, zones); slots: house persons zones person zone -/
def m_led_ones : Phi := mBody 3 5 (sRet (mLc [3] (mItems (mVar 1)) (tNm 3) (mTest (mOp neD (mLc [4] (mItems (mVar 2)) (tNm 4) (mNot (mTest (mCall m_is_free (mCons (mVar 0) (mCons (mVar 3) (mCons (mVar 4) (mNil))))))) (mVar 4)) (mLst (mNil)))) (mVar 3)))
/-- can_lead(house, persons, zones); slots: house persons zones leaders person -/
def m_can_lead_01 : Phi := mBody 3 5 (sSeq (sAsg (mLc [4] (mItems (mVar 1)) (tNm 4) (mTest (mOp notinD (mVar 4) (mCall m_led_ones (mCons (mVar 0) (mCons (mVar 1) (mCons (mVar 2) (mNil))))))) (mVar 4)) (tNm 3)) (sRet (mCB (pureF sumD) (mCons (mLc [4] (mItems (mVar 3)) (tNm 4) (mYes) (mOp ixD (mOp ixD (mFld 0 3 (mVar 0)) (mVar 4)) (mC (.int 3)))) (mNil)))))
/-- left_one(house, state); slots: house state person zone here other -/
def m_left_one_01 : Phi := mBody 2 6 (sSeq (sFor (mRng1 (mCons (mCB (pureF lenD) (mCons (mVar 1) (mNil))) (mNil))) (tNm 2) (sSeq (sAsg (mOp ixD (mVar 1) (mVar 2)) (tNm 3)) (sSeq (sIf (mNot (mTest (mCall m_may_be (mCons (mVar 0) (mCons (mVar 2) (mCons (mVar 3) (mNil))))))) (sRet (mVar 2)) (sSkip)) (sSeq (sAsg (mLc [5] (mRng1 (mCons (mCB (pureF lenD) (mCons (mVar 1) (mNil))) (mNil))) (tNm 5) (mTest (mOp eqD (mOp ixD (mVar 1) (mVar 5)) (mVar 3))) (mVar 5)) (tNm 4)) (sIf (mAnd (mNot (mTest (mCall m_is_free (mCons (mVar 0) (mCons (mVar 2) (mCons (mVar 3) (mNil))))))) (mTest (mOp gtD (mCB (pureF lenD) (mCons (mCall m_led_ones (mCons (mVar 0) (mCons (mVar 4) (mCons (mLst (mCons (mVar 3) (mNil))) (mNil))))) (mNil))) (mCall m_can_lead_01 (mCons (mVar 0) (mCons (mVar 4) (mCons (mLst (mCons (mVar 3) (mNil))) (mNil)))))))) (sRet (mVar 2)) (sSkip)))))) (sRet (mC .non)))
/-- House.is_door(self, door); slots: self door one other wide opens shuts -/
def m_House_is_door : Phi := mBody 2 7 (sSeq (sAsg (mVar 1) (tTp 5 (tsCons (tNm 2) (tsCons (tNm 3) (tsCons (tNm 4) (tsCons (tNm 5) (tsCons (tNm 6) (tsNil)))))))) (sRet (mAndV (mCh3 leD ltD ltD (mC (.int 0)) (mVar 2) (mVar 3) (mFld 0 0 (mVar 0))) (mAndV (mCh leD leD (mC (.int 1)) (mVar 4) (mC (.int 4))) (mCh3 leD ltD leD (mC (.int 0)) (mVar 5) (mVar 6) (mC (.int 8)))))))
/-- is_name(text); slots: text sign -/
def m_is_name : Phi := mBody 1 2 (sRet (mAndV (mCh leD leD (mC (.int 1)) (mCB (pureF lenD) (mCons (mVar 0) (mNil))) (mC (.int 8))) (mOp eqD (mLc [1] (mItems (mVar 0)) (tNm 1) (mTest (mOp notinS (mVar 1) (mC (.str "abcdefghijklmnopqrstuvwxyz")))) (mVar 1)) (mLst (mNil)))))
/-- House.is_person(self, number); slots: self number name begin goal most since free led zones person zone -/
def m_House_is_person : Phi := mBody 2 12 (sSeq (sAsg (mOp ixD (mFld 0 3 (mVar 0)) (mVar 1)) (tTp 7 (tsCons (tNm 2) (tsCons (tNm 3) (tsCons (tNm 4) (tsCons (tNm 5) (tsCons (tNm 6) (tsCons (tNm 7) (tsCons (tNm 8) (tsNil)))))))))) (sSeq (sIf (mOr (mNot (mTest (mCall m_is_name (mCons (mVar 2) (mNil))))) (mTest (mOp inD (mVar 2) (mLc [10] (mItems (mSl (mFld 0 3 (mVar 0)) (mNoP) (mPart (mVar 1)))) (tNm 10) (mYes) (mOp ixD (mVar 10) (mC (.int 0))))))) (sRet (mC (.bl false))) (sSkip)) (sSeq (sIf (mOr (mNot (mTest (mCh leD ltD (mC (.int 0)) (mVar 3) (mFld 0 0 (mVar 0))))) (mNot (mTest (mCh leD ltD (mNeg (mC (.int 1))) (mVar 4) (mFld 0 0 (mVar 0)))))) (sRet (mC (.bl false))) (sSkip)) (sSeq (sIf (mOr (mNot (mTest (mCh leD leD (mC (.int 0)) (mVar 5) (mC (.int 4))))) (mNot (mTest (mCh leD leD (mC (.int 0)) (mVar 6) (mC (.int 8)))))) (sRet (mC (.bl false))) (sSkip)) (sSeq (sAsg (mOp addD (mVar 7) (mVar 8)) (tNm 9)) (sSeq (sIf (mOr (mTest (mOp neD (mLc [11] (mItems (mVar 9)) (tNm 11) (mNot (mTest (mCh leD ltD (mC (.int 1)) (mVar 11) (mFld 0 0 (mVar 0))))) (mVar 11)) (mLst (mNil)))) (mTest (mOp neD (mCB (pureF lenSetD) (mCons (mCB (pureF setD) (mCons (mVar 9) (mNil))) (mNil))) (mCB (pureF lenD) (mCons (mVar 9) (mNil)))))) (sRet (mC (.bl false))) (sSkip)) (sRet (mAndV (mOp eqD (mVar 7) (mCB (pureF tupleD) (mCons (mCB (pureF sortTupD) (mCons (mVar 7) (mNil))) (mNil)))) (mOp eqD (mVar 8) (mCB (pureF tupleD) (mCons (mCB (pureF sortTupD) (mCons (mVar 8) (mNil))) (mNil))))))))))))
/-- House.__init__(self, zones, hours, doors, people); slots: self zones hours doors people number left person -/
def m_House_init_01 : Phi := mBody 5 8 (sSeq (sDrop (mCall m_must (mCons (mAndV (mCh leD leD (mC (.int 1)) (mVar 1) (mC (.int 4))) (mCh leD leD (mC (.int 0)) (mVar 2) (mC (.int 8)))) (mCons (mC (.str "house")) (mCons (mC (.int 0)) (mNil)))))) (sSeq (sDrop (mCall m_must (mCons (mOp leD (mCB (pureF lenD) (mCons (mVar 3) (mNil))) (mC (.int 6))) (mCons (mC (.str "doors")) (mCons (mC (.int 0)) (mNil)))))) (sSeq (sDrop (mCall m_must (mCons (mCh leD leD (mC (.int 1)) (mCB (pureF lenD) (mCons (mVar 4) (mNil))) (mC (.int 4))) (mCons (mC (.str "people")) (mCons (mC (.int 0)) (mNil)))))) (sSeq (sFldM 0 0 (mVar 0) (mVar 1)) (sSeq (sFldM 0 1 (mVar 0) (mVar 2)) (sSeq (sFldM 0 2 (mVar 0) (mCB (pureF listD) (mCons (mVar 3) (mNil)))) (sSeq (sFldM 0 3 (mVar 0) (mCB (pureF listD) (mCons (mVar 4) (mNil)))) (sSeq (sFor (mRng1 (mCons (mCB (pureF lenD) (mCons (mVar 3) (mNil))) (mNil))) (tNm 5) (sDrop (mCall m_must (mCons (mMeth 0 m_House_is_door (mVar 0) (mCons (mOp ixD (mVar 3) (mVar 5)) (mNil))) (mCons (mC (.str "door")) (mCons (mVar 5) (mNil))))))) (sSeq (sFor (mRng1 (mCons (mCB (pureF lenD) (mCons (mVar 4) (mNil))) (mNil))) (tNm 5) (sDrop (mCall m_must (mCons (mMeth 0 m_House_is_person (mVar 0) (mCons (mVar 5) (mNil))) (mCons (mC (.str "person")) (mCons (mVar 5) (mNil))))))) (sSeq (sAsg (mCall m_left_one_01 (mCons (mVar 0) (mCons (mCB (pureF tupleD) (mCons (mLcK [7] (mVar 4) (tNm 7) (mYes) (mOp ixD (mVar 7) (mC (.int 1)))) (mNil))) (mNil)))) (tNm 6)) (sDrop (mCall m_must (mCons (mOp isD (mVar 6) (mC .non)) (mCons (mC (.str "left")) (mCons (mIf (mTest (mOp isD (mVar 6) (mC .non))) (mC (.int 0)) (mVar 6)) (mNil))))))))))))))))
/-- made(house_here); slots: house_here -/
def m_lw_made_01 : Phi := mBody 1 1 (sRet (mFrz (mMake 0 m_House_init_01 (mCons (mOp ixD (mVar 0) (mC (.int 0))) (mCons (mOp ixD (mVar 0) (mC (.int 1))) (mCons (mCB (pureF listD) (mCons (mOp ixD (mVar 0) (mC (.int 2))) (mNil))) (mCons (mCB (pureF listD) (mCons (mOp ixD (mVar 0) (mC (.int 3))) (mNil))) (mNil))))))))
/-- drawn(row, house_here); slots: row house_here many group k -/
def m_lw_drawn_01 : Phi := mBody 2 5 (sSeq (sAsg (mCB (pureF lenD) (mCons (mOp ixD (mVar 1) (mC (.int 3))) (mNil))) (tNm 2)) (sSeq (sIf (mOr (mTest (mOp eqD (mOp ixD (mVar 1) (mC (.int 2))) (mLst (mNil)))) (mTest (mOp eqD (mCall m_lw_taken (mCons (mVar 0) (mCons (mC (.int 12)) (mNil)))) (mC (.int 11))))) (sRet (mTup (mCons (mC (.str "wait")) (mNil)))) (sSkip)) (sSeq (sAsg (mCB (pureF tupleD) (mCons (mLc [4] (mRng1 (mCons (mVar 2) (mNil))) (tNm 4) (mTest (mOp eqD (mCall m_lw_taken (mCons (mVar 0) (mCons (mC (.int 2)) (mNil)))) (mC (.int 1)))) (mVar 4)) (mNil))) (tNm 3)) (sSeq (sIf (mTest (mOp eqD (mVar 3) (mTup (mNil)))) (sAsg (mTup (mCons (mCall m_lw_taken (mCons (mVar 0) (mCons (mVar 2) (mNil)))) (mNil))) (tNm 3)) (sSkip)) (sRet (mTup (mCons (mC (.str "go")) (mCons (mCall m_lw_taken (mCons (mVar 0) (mCons (mCB (pureF lenD) (mCons (mOp ixD (mVar 1) (mC (.int 2))) (mNil))) (mNil)))) (mCons (mVar 3) (mNil))))))))))
/-- need_step(house, step); slots: house step group -/
def m_need_step : Phi := mBody 2 3 (sSeq (sIf (mTest (mOp eqD (mVar 1) (mC (.tup [.str "wait"])))) (sRetN) (sSkip)) (sSeq (sIf (mOr (mTest (mOp neD (mCB (pureF lenD) (mCons (mVar 1) (mNil))) (mC (.int 3)))) (mOr (mTest (mOp neD (mOp ixD (mVar 1) (mC (.int 0))) (mC (.str "go")))) (mNot (mTest (mCh leD ltD (mC (.int 0)) (mOp ixD (mVar 1) (mC (.int 1))) (mCB (pureF lenD) (mCons (mFld 0 2 (mVar 0)) (mNil)))))))) (sRaise0 3) (sSkip)) (sSeq (sAsg (mOp ixD (mVar 1) (mC (.int 2))) (tNm 2)) (sSeq (sIf (mOr (mTest (mOp eqD (mVar 2) (mTup (mNil)))) (mTest (mOp neD (mVar 2) (mCB (pureF tupleD) (mCons (mCB (pureF sortSetD) (mCons (mCB (pureF setD) (mCons (mVar 2) (mNil))) (mNil))) (mNil)))))) (sRaise0 3) (sSkip)) (sIf (mNot (mTest (mCh3 leD leD ltD (mC (.int 0)) (mOp ixD (mVar 2) (mC (.int 0))) (mOp ixD (mVar 2) (mNeg (mC (.int 1)))) (mCB (pureF lenD) (mCons (mFld 0 3 (mVar 0)) (mNil)))))) (sRaise0 3) (sSkip))))))
/-- first_of(persons); slots: persons -/
def m_first_of : Phi := mBody 1 1 (sRet (mIf (mTest (mOp neD (mVar 0) (mLst (mNil)))) (mOp ixD (mVar 0) (mC (.int 0))) (mC .non)))
/-- moved(state, group, zone); slots: state group zone person -/
def m_moved : Phi := mBody 3 4 (sRet (mCB (pureF tupleD) (mCons (mLc [3] (mRng1 (mCons (mCB (pureF lenD) (mCons (mVar 0) (mNil))) (mNil))) (tNm 3) (mYes) (mIf (mTest (mOp inD (mVar 3) (mVar 1))) (mVar 2) (mOp ixD (mVar 0) (mVar 3)))) (mNil))))
/-- bar_of_going(house, state, group, here, there); slots: house state group here there strange led left person -/
def m_bar_of_going_01 : Phi := mBody 5 9 (sSeq (sAsg (mCall m_first_of (mCons (mLc [8] (mItems (mVar 2)) (tNm 8) (mNot (mTest (mCall m_may_be (mCons (mVar 0) (mCons (mVar 8) (mCons (mVar 4) (mNil))))))) (mVar 8)) (mNil))) (tNm 5)) (sSeq (sIf (mTest (mOp isnotD (mVar 5) (mC .non))) (sRet (mTup (mCons (mC (.str "may")) (mCons (mVar 5) (mNil))))) (sSkip)) (sSeq (sAsg (mCall m_led_ones (mCons (mVar 0) (mCons (mVar 2) (mCons (mLst (mCons (mVar 3) (mCons (mVar 4) (mNil)))) (mNil))))) (tNm 6)) (sSeq (sIf (mTest (mOp gtD (mCB (pureF lenD) (mCons (mVar 6) (mNil))) (mCall m_can_lead_01 (mCons (mVar 0) (mCons (mVar 2) (mCons (mLst (mCons (mVar 3) (mCons (mVar 4) (mNil)))) (mNil))))))) (sRet (mTup (mCons (mC (.str "led")) (mCons (mOp ixD (mVar 6) (mC (.int 0))) (mNil))))) (sSkip)) (sSeq (sAsg (mCall m_left_one_01 (mCons (mVar 0) (mCons (mCall m_moved (mCons (mVar 1) (mCons (mVar 2) (mCons (mVar 4) (mNil))))) (mNil)))) (tNm 7)) (sSeq (sIf (mTest (mOp isnotD (mVar 7) (mC .non))) (sRet (mTup (mCons (mC (.str "left")) (mCons (mVar 7) (mNil))))) (sSkip)) (sRet (mC .non))))))))
/-- bar_of(house, hour, state, step); slots: house hour state step number group one other wide opens shuts late here away person -/
def m_bar_of_01 : Phi := mBody 4 15 (sSeq (sIf (mTest (mOp eqD (mVar 3) (mC (.tup [.str "wait"])))) (sRet (mC .non)) (sSkip)) (sSeq (sAsg (mOp ixD (mVar 3) (mC (.int 1))) (tNm 4)) (sSeq (sAsg (mCB (pureF listD) (mCons (mOp ixD (mVar 3) (mC (.int 2))) (mNil))) (tNm 5)) (sSeq (sAsg (mOp ixD (mFld 0 2 (mVar 0)) (mVar 4)) (tTp 5 (tsCons (tNm 6) (tsCons (tNm 7) (tsCons (tNm 8) (tsCons (tNm 9) (tsCons (tNm 10) (tsNil)))))))) (sSeq (sIf (mNot (mTest (mCh leD ltD (mVar 9) (mVar 1) (mVar 10)))) (sRet (mTup (mCons (mC (.str "hour")) (mCons (mVar 4) (mNil))))) (sSkip)) (sSeq (sAsg (mCall m_first_of (mCons (mLc [14] (mItems (mVar 5)) (tNm 14) (mTest (mOp gtD (mOp ixD (mOp ixD (mFld 0 3 (mVar 0)) (mVar 14)) (mC (.int 4))) (mVar 1))) (mVar 14)) (mNil))) (tNm 11)) (sSeq (sIf (mTest (mOp isnotD (mVar 11) (mC .non))) (sRet (mTup (mCons (mC (.str "late")) (mCons (mVar 11) (mNil))))) (sSkip)) (sSeq (sAsg (mOp ixD (mVar 2) (mOp ixD (mVar 5) (mC (.int 0)))) (tNm 12)) (sSeq (sAsg (mCall m_first_of (mCons (mLc [14] (mItems (mVar 5)) (tNm 14) (mOr (mTest (mOp neD (mOp ixD (mVar 2) (mVar 14)) (mVar 12))) (mTest (mOp notinD (mVar 12) (mTup (mCons (mVar 6) (mCons (mVar 7) (mNil))))))) (mVar 14)) (mNil))) (tNm 13)) (sSeq (sIf (mTest (mOp isnotD (mVar 13) (mC .non))) (sRet (mTup (mCons (mC (.str "place")) (mCons (mVar 13) (mNil))))) (sSkip)) (sSeq (sIf (mTest (mOp gtD (mCB (pureF lenD) (mCons (mVar 5) (mNil))) (mVar 8))) (sRet (mTup (mCons (mC (.str "wide")) (mCons (mVar 4) (mNil))))) (sSkip)) (sRet (mCall m_bar_of_going_01 (mCons (mVar 0) (mCons (mVar 2) (mCons (mVar 5) (mCons (mVar 12) (mCons (mOp subD (mOp addD (mVar 6) (mVar 7)) (mVar 12)) (mNil)))))))))))))))))))
/-- barred(house, hour, state, step); slots: house hour state step -/
def m_barred_01 : Phi := mBody 4 4 (sSeq (sDrop (mCall m_need_step (mCons (mVar 0) (mCons (mVar 3) (mNil))))) (sRet (mCall m_bar_of_01 (mCons (mVar 0) (mCons (mVar 1) (mCons (mVar 2) (mCons (mVar 3) (mNil))))))))
/-- behind(house_here, state, step); slots: house_here state step one other found person_here -/
def m_lw_behind : Phi := mBody 3 7 (sSeq (sIf (mTest (mOp eqD (mCB (pureF lenD) (mCons (mVar 2) (mNil))) (mC (.int 1)))) (sRet (mVar 1)) (sSkip)) (sSeq (sAsg (mSl (mOp ixD (mOp ixD (mVar 0) (mC (.int 2))) (mOp ixD (mVar 2) (mC (.int 1)))) (mNoP) (mPart (mC (.int 2)))) (tTp 2 (tsCons (tNm 3) (tsCons (tNm 4) (tsNil))))) (sSeq (sAsg (mCB listC (mCons (mVar 1) (mNil))) (tNm 5)) (sSeq (sFor (mItems (mOp ixD (mVar 2) (mC (.int 2)))) (tNm 6) (sPut (mVar 5) (mVar 6) (mOp ixD (mLst (mCons (mVar 3) (mCons (mVar 4) (mNil)))) (mCB (pureF intD) (mCons (mOp eqD (mOp ixD (mVar 1) (mVar 6)) (mVar 3)) (mNil)))))) (sSeq (sFrz 5) (sRet (mCB (pureF tupleD) (mCons (mVar 5) (mNil)))))))))
/-- bar(house_here, hour, state, step); slots: house_here hour state step word number group one other wide opens shuts person_here here there bound left_here k -/
def m_lw_bar_01 : Phi := mBody 4 18 (sSeq (sIf (mTest (mOp eqD (mCB (pureF lenD) (mCons (mVar 3) (mNil))) (mC (.int 1)))) (sRet (mC .non)) (sSkip)) (sSeq (sAsg (mVar 3) (tTp 3 (tsCons (tNm 4) (tsCons (tNm 5) (tsCons (tNm 6) (tsNil)))))) (sSeq (sAsg (mOp ixD (mOp ixD (mVar 0) (mC (.int 2))) (mVar 5)) (tTp 5 (tsCons (tNm 7) (tsCons (tNm 8) (tsCons (tNm 9) (tsCons (tNm 10) (tsCons (tNm 11) (tsNil)))))))) (sSeq (sIf (mOr (mTest (mOp ltD (mVar 1) (mVar 10))) (mTest (mOp geD (mVar 1) (mVar 11)))) (sRet (mTup (mCons (mC (.str "hour")) (mCons (mVar 5) (mNil))))) (sSkip)) (sSeq (sFor (mItems (mVar 6)) (tNm 12) (sIf (mTest (mOp gtD (mOp ixD (mOp ixD (mOp ixD (mVar 0) (mC (.int 3))) (mVar 12)) (mC (.int 4))) (mVar 1))) (sRet (mTup (mCons (mC (.str "late")) (mCons (mVar 12) (mNil))))) (sSkip))) (sSeq (sAsg (mOp ixD (mVar 2) (mOp ixD (mVar 6) (mC (.int 0)))) (tNm 13)) (sSeq (sIf (mAnd (mTest (mOp neD (mVar 13) (mVar 7))) (mTest (mOp neD (mVar 13) (mVar 8)))) (sRet (mTup (mCons (mC (.str "place")) (mCons (mOp ixD (mVar 6) (mC (.int 0))) (mNil))))) (sSkip)) (sSeq (sFor (mItems (mVar 6)) (tNm 12) (sIf (mTest (mOp neD (mOp ixD (mVar 2) (mVar 12)) (mVar 13))) (sRet (mTup (mCons (mC (.str "place")) (mCons (mVar 12) (mNil))))) (sSkip))) (sSeq (sIf (mTest (mOp gtD (mCB (pureF lenD) (mCons (mVar 6) (mNil))) (mVar 9))) (sRet (mTup (mCons (mC (.str "wide")) (mCons (mVar 5) (mNil))))) (sSkip)) (sSeq (sAsg (mOp ixD (mLst (mCons (mVar 7) (mCons (mVar 8) (mNil)))) (mCB (pureF intD) (mCons (mOp eqD (mVar 13) (mVar 7)) (mNil)))) (tNm 14)) (sSeq (sFor (mItems (mVar 6)) (tNm 12) (sIf (mAnd (mNot (mTest (mCall (mPure m_lw_free) (mCons (mVar 0) (mCons (mVar 12) (mCons (mVar 14) (mNil))))))) (mTest (mOp notinD (mVar 14) (mOp ixD (mOp ixD (mOp ixD (mVar 0) (mC (.int 3))) (mVar 12)) (mC (.int 6)))))) (sRet (mTup (mCons (mC (.str "may")) (mCons (mVar 12) (mNil))))) (sSkip))) (sSeq (sAsg (mLc [17] (mItems (mVar 6)) (tNm 17) (mOr (mNot (mTest (mCall (mPure m_lw_free) (mCons (mVar 0) (mCons (mVar 17) (mCons (mVar 13) (mNil))))))) (mNot (mTest (mCall (mPure m_lw_free) (mCons (mVar 0) (mCons (mVar 17) (mCons (mVar 14) (mNil)))))))) (mVar 17)) (tNm 15)) (sSeq (sIf (mTest (mOp gtD (mCB (pureF lenD) (mCons (mVar 15) (mNil))) (mCB (pureF sumD) (mCons (mLc [17] (mItems (mVar 6)) (tNm 17) (mTest (mOp notinD (mVar 17) (mVar 15))) (mOp ixD (mOp ixD (mOp ixD (mVar 0) (mC (.int 3))) (mVar 17)) (mC (.int 3)))) (mNil))))) (sRet (mTup (mCons (mC (.str "led")) (mCons (mOp ixD (mVar 15) (mC (.int 0))) (mNil))))) (sSkip)) (sSeq (sAsg (mCall (mPure m_lw_left) (mCons (mVar 0) (mCons (mCall (mPure m_lw_behind) (mCons (mVar 0) (mCons (mVar 2) (mCons (mVar 3) (mNil))))) (mNil)))) (tNm 16)) (sSeq (sIf (mTest (mOp isnotD (mVar 16) (mC .non))) (sRet (mTup (mCons (mC (.str "left")) (mCons (mVar 16) (mNil))))) (sSkip)) (sRet (mC .non)))))))))))))))))
/-- House.doors(self); slots: self -/
def m_House_doors : Phi := mBody 1 1 (sRet (mCB (pureF listD) (mCons (mFld 0 2 (mVar 0)) (mNil))))
/-- House.people(self); slots: self -/
def m_House_people : Phi := mBody 1 1 (sRet (mCB (pureF listD) (mCons (mFld 0 3 (mVar 0)) (mNil))))
/-- law(script); slots: script row house_here told k state step hour found due person_here -/
def m_law_01 : Phi := mBody 1 11 (sSeq (sAsg (mLstC (mCons (mVar 0) (mCons (mC (.int 0)) (mCons (mC (.int 0)) (mNil))))) (tNm 1)) (sSeq (sAsg (mCall (mRow m_lw_house) (mCons (mVar 1) (mNil))) (tNm 2)) (sSeq (sAsg (mCall (mPure m_lw_made_01) (mCons (mVar 2) (mNil))) (tNm 3)) (sSeq (sIf (mOr (mTest (mOp neD (mMeth 0 m_House_doors (mVar 3) mNil) (mOp ixD (mVar 2) (mC (.int 2))))) (mOr (mTest (mOp neD (mMeth 0 m_House_people (mVar 3) mNil) (mOp ixD (mVar 2) (mC (.int 3))))) (mTest (mOp neD (mTup (mCons (mFld 0 0 (mVar 3)) (mCons (mFld 0 1 (mVar 3)) (mNil)))) (mSl (mVar 2) (mNoP) (mPart (mC (.int 2)))))))) (sRet (mC (.bl false))) (sSkip)) (sSeq (sFor (mRng1 (mCons (mOp addD (mC (.int 5)) (mCall m_lw_taken (mCons (mVar 1) (mCons (mC (.int 26)) (mNil))))) (mNil))) (tNm 4) (sSeq (sAsg (mCB (pureF tupleD) (mCons (mLc [10] (mItems (mOp ixD (mVar 2) (mC (.int 3)))) (tNm 10) (mYes) (mCall m_lw_taken (mCons (mVar 1) (mCons (mOp ixD (mVar 2) (mC (.int 0))) (mNil))))) (mNil))) (tNm 5)) (sSeq (sIf (mTest (mOp eqD (mCall m_lw_taken (mCons (mVar 1) (mCons (mC (.int 2)) (mNil)))) (mC (.int 1)))) (sAsg (mOp mul1D (mTup (mCons (mOp ixD (mVar 5) (mC (.int 0))) (mNil))) (mCB (pureF lenD) (mCons (mVar 5) (mNil)))) (tNm 5)) (sSkip)) (sSeq (sIf (mTest (mOp neD (mCall m_left_one_01 (mCons (mVar 3) (mCons (mVar 5) (mNil)))) (mCall (mPure m_lw_left) (mCons (mVar 2) (mCons (mVar 5) (mNil)))))) (sRet (mC (.bl false))) (sSkip)) (sSeq (sAsg (mCall (mRow m_lw_drawn_01) (mCons (mVar 1) (mCons (mVar 2) (mNil)))) (tNm 6)) (sSeq (sAsg (mCall m_lw_taken (mCons (mVar 1) (mCons (mC (.int 9)) (mNil)))) (tNm 7)) (sSeq (sAsg (mCall m_barred_01 (mCons (mVar 3) (mCons (mVar 7) (mCons (mVar 5) (mCons (mVar 6) (mNil)))))) (tNm 8)) (sSeq (sAsg (mCall (mPure m_lw_bar_01) (mCons (mVar 2) (mCons (mVar 7) (mCons (mVar 5) (mCons (mVar 6) (mNil)))))) (tNm 9)) (sIf (mOr (mTest (mOp neD (mVar 8) (mVar 9))) (mAnd (mTest (mOp isnotD (mVar 9) (mC .non))) (mNot (mTest (mCB (pureF isiD) (mCons (mVar 8) (mCons (mC (.ty "tuple")) (mNil)))))))) (sRet (mC (.bl false))) (sSkip)))))))))) (sRet (mC (.bl true))))))))
/-- begin(house); slots: house person -/
def m_begin : Phi := mBody 1 2 (sRet (mCB (pureF tupleD) (mCons (mLc [1] (mItems (mFld 0 3 (mVar 0))) (tNm 1) (mYes) (mOp ixD (mVar 1) (mC (.int 1)))) (mNil))))
/-- groups_of(many); slots: many found person group -/
def m_groups_of : Phi := mBody 1 4 (sSeq (sAsg (mLst (mCons (mTup (mNil)) (mNil))) (tNm 1)) (sSeq (sFor (mRng1 (mCons (mVar 0) (mNil))) (tNm 2) (sAsg (mOp addD (mVar 1) (mLc [3] (mItems (mVar 1)) (tNm 3) (mYes) (mOp addD (mVar 3) (mTup (mCons (mVar 2) (mNil)))))) (tNm 1))) (sRet (mSl (mCB (pureF sortTTD) (mCons (mVar 1) (mNil))) (mPart (mC (.int 1))) (mNoP)))))
/-- steps_at(house, hour, state); slots: house hour state found groups door group -/
def m_steps_at_02 : Phi := mBody 3 7 (sSeq (sAsg (mLstC (mCons (mC (.tup [.str "wait"])) (mNil))) (tNm 3)) (sSeq (sAsg (mCall m_groups_of (mCons (mCB (pureF lenD) (mCons (mVar 2) (mNil))) (mNil))) (tNm 4)) (sSeq (sFor (mRng1 (mCons (mCB (pureF lenD) (mCons (mFld 0 2 (mVar 0)) (mNil))) (mNil))) (tNm 5) (sFor (mItems (mVar 4)) (tNm 6) (sIf (mTest (mOp isD (mCall m_bar_of_01 (mCons (mVar 0) (mCons (mVar 1) (mCons (mVar 2) (mCons (mTup (mCons (mC (.str "go")) (mCons (mVar 5) (mCons (mVar 6) (mNil))))) (mNil)))))) (mC .non))) (sDrop (mBM isCell appF (mVar 3) (mCons (mTup (mCons (mC (.str "go")) (mCons (mVar 5) (mCons (mVar 6) (mNil))))) (mNil)))) (sSkip)))) (sRet (mVar 3)))))
/-- is_right(house_here, state); slots: house_here state zone here bound k one -/
def m_lw_is_right : Phi := mBody 2 7 (sSeq (sFor (mRng1 (mCons (mOp ixD (mVar 0) (mC (.int 0))) (mNil))) (tNm 2) (sSeq (sAsg (mLc [5] (mRng1 (mCons (mCB (pureF lenD) (mCons (mVar 1) (mNil))) (mNil))) (tNm 5) (mTest (mOp eqD (mOp ixD (mVar 1) (mVar 5)) (mVar 2))) (mOp ixD (mOp ixD (mVar 0) (mC (.int 3))) (mVar 5))) (tNm 3)) (sSeq (sAsg (mLc [6] (mItems (mVar 3)) (tNm 6) (mAnd (mTest (mOp gtD (mVar 2) (mC (.int 0)))) (mTest (mOp notinD (mVar 2) (mOp ixD (mVar 6) (mC (.int 5)))))) (mVar 6)) (tNm 4)) (sSeq (sIf (mTest (mOp neD (mLc [6] (mItems (mVar 4)) (tNm 6) (mTest (mOp notinD (mVar 2) (mOp ixD (mVar 6) (mC (.int 6))))) (mVar 6)) (mLst (mNil)))) (sRet (mC (.bl false))) (sSkip)) (sIf (mTest (mOp gtD (mCB (pureF lenD) (mCons (mVar 4) (mNil))) (mCB (pureF sumD) (mCons (mLc [6] (mItems (mVar 3)) (tNm 6) (mTest (mOp notinX (mVar 6) (mVar 4))) (mOp ixD (mVar 6) (mC (.int 3)))) (mNil))))) (sRet (mC (.bl false))) (sSkip)))))) (sRet (mC (.bl true))))
/-- are_led(house_here, state, later, step); slots: house_here state later step bound hands person_here zones others zone k -/
def m_lw_are_led : Phi := mBody 4 11 (sSeq (sIf (mTest (mOp eqD (mCB (pureF lenD) (mCons (mVar 3) (mNil))) (mC (.int 1)))) (sRet (mOp eqD (mVar 1) (mVar 2))) (sSkip)) (sSeq (sAsg (mLstC (mNil)) (tNm 4)) (sSeq (sAsg (mC (.int 0)) (tNm 5)) (sSeq (sFor (mItems (mOp ixD (mVar 3) (mC (.int 2)))) (tNm 6) (sSeq (sAsg (mLc [9] (mItems (mLst (mCons (mOp ixD (mVar 1) (mVar 6)) (mCons (mOp ixD (mVar 2) (mVar 6)) (mNil))))) (tNm 9) (mTest (mOp gtD (mVar 9) (mC (.int 0)))) (mVar 9)) (tNm 7)) (sIf (mTest (mOp neD (mLc [9] (mItems (mVar 7)) (tNm 9) (mTest (mOp notinD (mVar 9) (mOp ixD (mOp ixD (mOp ixD (mVar 0) (mC (.int 3))) (mVar 6)) (mC (.int 5))))) (mVar 9)) (mLst (mNil)))) (sDrop (mBM isCell appF (mVar 4) (mCons (mVar 6) (mNil)))) (sAsg (mOp addD (mVar 5) (mOp ixD (mOp ixD (mOp ixD (mVar 0) (mC (.int 3))) (mVar 6)) (mC (.int 3)))) (tNm 5))))) (sSeq (sFrz 4) (sSeq (sAsg (mLc [10] (mRng1 (mCons (mCB (pureF lenD) (mCons (mVar 1) (mNil))) (mNil))) (tNm 10) (mAnd (mTest (mOp notinD (mVar 10) (mOp ixD (mVar 3) (mC (.int 2))))) (mTest (mOp neD (mOp ixD (mVar 1) (mVar 10)) (mOp ixD (mVar 2) (mVar 10))))) (mVar 10)) (tNm 8)) (sRet (mAndV (mOp leD (mCB (pureF lenD) (mCons (mVar 4) (mNil))) (mVar 5)) (mAndV (mOp eqD (mVar 8) (mLst (mNil))) (mOp leD (mCB (pureF lenD) (mCons (mOp ixD (mVar 3) (mC (.int 2))) (mNil))) (mOp ixD (mOp ixD (mOp ixD (mVar 0) (mC (.int 2))) (mOp ixD (mVar 3) (mC (.int 1)))) (mC (.int 2)))))))))))))
/-- walked(row, house_here, told, state, first); slots: row house_here told state first steps_here states k some step later -/
def m_lw_walked : Phi := mBody 5 11 (sSeq (sAsg (mLstC (mNil)) (tNm 5)) (sSeq (sAsg (mLstC (mCons (mVar 3) (mNil))) (tNm 6)) (sSeq (sFor (mRng1 (mCons (mCall m_lw_taken (mCons (mVar 0) (mCons (mC (.int 13)) (mNil)))) (mNil))) (tNm 7) (sSeq (sAsg (mCall (mPure (mFz m_steps_at_02)) (mCons (mVar 2) (mCons (mOp addD (mVar 4) (mVar 7)) (mCons (mOp ixD (mVar 6) (mNeg (mC (.int 1)))) (mNil))))) (tNm 8)) (sSeq (sAsg (mOp ixD (mVar 8) (mCall m_lw_taken (mCons (mVar 0) (mCons (mCB (pureF lenD) (mCons (mVar 8) (mNil))) (mNil))))) (tNm 9)) (sSeq (sAsg (mCall (mPure m_lw_behind) (mCons (mVar 1) (mCons (mOp ixD (mVar 6) (mNeg (mC (.int 1)))) (mCons (mVar 9) (mNil))))) (tNm 10)) (sSeq (sIf (mOr (mNot (mTest (mCall (mPure m_lw_is_right) (mCons (mVar 1) (mCons (mVar 10) (mNil)))))) (mNot (mTest (mCall (mPure m_lw_are_led) (mCons (mVar 1) (mCons (mOp ixD (mVar 6) (mNeg (mC (.int 1)))) (mCons (mVar 10) (mCons (mVar 9) (mNil))))))))) (sRet (mC .non)) (sSkip)) (sSeq (sDrop (mBM isCell appF (mVar 5) (mCons (mVar 9) (mNil)))) (sDrop (mBM isCell appF (mVar 6) (mCons (mVar 10) (mNil)))))))))) (sSeq (sFrz 6) (sSeq (sFrz 5) (sRet (mTup (mCons (mVar 5) (mCons (mVar 6) (mNil))))))))))
/-- behind(house, state, step); slots: house state step one other -/
def m_behind : Phi := mBody 3 5 (sSeq (sIf (mTest (mOp eqD (mVar 2) (mC (.tup [.str "wait"])))) (sRet (mVar 1)) (sSkip)) (sSeq (sAsg (mSl (mOp ixD (mFld 0 2 (mVar 0)) (mOp ixD (mVar 2) (mC (.int 1)))) (mNoP) (mPart (mC (.int 2)))) (tTp 2 (tsCons (tNm 3) (tsCons (tNm 4) (tsNil))))) (sRet (mCall m_moved (mCons (mVar 1) (mCons (mOp ixD (mVar 2) (mC (.int 2))) (mCons (mOp subD (mOp addD (mVar 3) (mVar 4)) (mOp ixD (mVar 1) (mOp ixD (mOp ixD (mVar 2) (mC (.int 2))) (mC (.int 0))))) (mNil))))))))
/-- gone(house, plan, hour, state); slots: house plan hour state found at bar -/
def m_gone_02 : Phi := mBody 4 7 (sSeq (sAsg (mLstC (mCons (mVar 3) (mNil))) (tNm 4)) (sSeq (sFor (mRng1 (mCons (mCB (pureF lenD) (mCons (mVar 1) (mNil))) (mNil))) (tNm 5) (sSeq (sIf (mTest (mOp geD (mOp addD (mVar 2) (mVar 5)) (mFld 0 1 (mVar 0)))) (sRaise0 3) (sSkip)) (sSeq (sAsg (mCall m_bar_of_01 (mCons (mVar 0) (mCons (mOp addD (mVar 2) (mVar 5)) (mCons (mOp ixD (mVar 4) (mNeg (mC (.int 1)))) (mCons (mOp ixD (mVar 1) (mVar 5)) (mNil)))))) (tNm 6)) (sSeq (sIf (mTest (mOp isnotD (mVar 6) (mC .non))) (sRaise 4 3 (mCons (mOp ixD (mVar 6) (mC (.int 0))) (mCons (mOp ixD (mVar 6) (mC (.int 1))) (mCons (mOp addD (mVar 2) (mVar 5)) (mNil))))) (sSkip)) (sDrop (mBM isCell appF (mVar 4) (mCons (mCall m_behind (mCons (mVar 0) (mCons (mOp ixD (mVar 4) (mNeg (mC (.int 1)))) (mCons (mOp ixD (mVar 1) (mVar 5)) (mNil))))) (mNil)))))))) (sSeq (sFrz 4) (sRet (mVar 4)))))
/-- played(house, plan); slots: house plan step -/
def m_played_02 : Phi := mBody 2 3 (sSeq (sFor (mItems (mVar 1)) (tNm 2) (sDrop (mCall m_need_step (mCons (mVar 0) (mCons (mVar 2) (mNil)))))) (sRet (mCall m_gone_02 (mCons (mVar 0) (mCons (mVar 1) (mCons (mC (.int 0)) (mCons (mCall m_begin (mCons (mVar 0) (mNil))) (mNil))))))))
/-- law(script); slots: script row house_here told state found plan k person_here -/
def m_law_02 : Phi := mBody 1 9 (sSeq (sAsg (mLstC (mCons (mVar 0) (mCons (mC (.int 0)) (mCons (mC (.int 0)) (mNil))))) (tNm 1)) (sSeq (sAsg (mCall (mRow m_lw_house) (mCons (mVar 1) (mNil))) (tNm 2)) (sSeq (sAsg (mCall (mPure m_lw_made_01) (mCons (mVar 2) (mNil))) (tNm 3)) (sSeq (sAsg (mCall m_begin (mCons (mVar 3) (mNil))) (tNm 4)) (sSeq (sIf (mOr (mTest (mOp neD (mVar 4) (mCB (pureF tupleD) (mCons (mLc [8] (mItems (mOp ixD (mVar 2) (mC (.int 3)))) (tNm 8) (mYes) (mOp ixD (mVar 8) (mC (.int 1)))) (mNil))))) (mNot (mTest (mCall (mPure m_lw_is_right) (mCons (mVar 2) (mCons (mVar 4) (mNil))))))) (sRet (mC (.bl false))) (sSkip)) (sSeq (sAsg (mCall (mRow m_lw_walked) (mCons (mVar 1) (mCons (mVar 2) (mCons (mVar 3) (mCons (mVar 4) (mCons (mC (.int 0)) (mNil))))))) (tNm 5)) (sSeq (sIf (mTest (mOp isD (mVar 5) (mC .non))) (sRet (mC (.bl false))) (sSkip)) (sSeq (sAsg (mSl (mOp ixD (mVar 5) (mC (.int 0))) (mNoP) (mPart (mOp ixD (mVar 2) (mC (.int 1))))) (tNm 6)) (sSeq (sIf (mTest (mOp neD (mCall m_played_02 (mCons (mVar 3) (mCons (mVar 6) (mNil)))) (mSl (mOp ixD (mVar 5) (mC (.int 1))) (mNoP) (mPart (mOp addD (mCB (pureF lenD) (mCons (mVar 6) (mNil))) (mC (.int 1))))))) (sRet (mC (.bl false))) (sSkip)) (sSeq (sFor (mRng1 (mCons (mC (.int 4)) (mNil))) (tNm 7) (sSeq (sAsg (mCB (pureF tupleD) (mCons (mLc [8] (mItems (mOp ixD (mVar 2) (mC (.int 3)))) (tNm 8) (mYes) (mCall m_lw_taken (mCons (mVar 1) (mCons (mOp ixD (mVar 2) (mC (.int 0))) (mNil))))) (mNil))) (tNm 4)) (sIf (mAnd (mTest (mCall (mPure m_lw_is_right) (mCons (mVar 2) (mCons (mVar 4) (mNil))))) (mTest (mOp isD (mCall (mRow m_lw_walked) (mCons (mVar 1) (mCons (mVar 2) (mCons (mVar 3) (mCons (mVar 4) (mCons (mCall m_lw_taken (mCons (mVar 1) (mCons (mC (.int 5)) (mNil)))) (mNil))))))) (mC .non)))) (sRet (mC (.bl false))) (sSkip)))) (sRet (mC (.bl true)))))))))))))
/-- steps(house_here, hour, state); slots: house_here hour state groups person_here found door group -/
def m_lw_steps_01 : Phi := mBody 3 8 (sSeq (sAsg (mLst (mCons (mTup (mNil)) (mNil))) (tNm 3)) (sSeq (sFor (mRng3 (mCons (mOp subD (mCB (pureF lenD) (mCons (mVar 2) (mNil))) (mC (.int 1))) (mCons (mNeg (mC (.int 1))) (mCons (mNeg (mC (.int 1))) (mNil))))) (tNm 4) (sAsg (mOp addD (mOp addD (mLst (mCons (mTup (mNil)) (mNil))) (mLc [7] (mItems (mVar 3)) (tNm 7) (mYes) (mOp addD (mTup (mCons (mVar 4) (mNil))) (mVar 7)))) (mSl (mVar 3) (mPart (mC (.int 1))) (mNoP))) (tNm 3))) (sSeq (sAsg (mLstC (mCons (mTup (mCons (mC (.str "wait")) (mNil))) (mNil))) (tNm 5)) (sSeq (sFor (mRng1 (mCons (mCB (pureF lenD) (mCons (mOp ixD (mVar 0) (mC (.int 2))) (mNil))) (mNil))) (tNm 6) (sFor (mItems (mSl (mVar 3) (mPart (mC (.int 1))) (mNoP))) (tNm 7) (sIf (mTest (mOp isD (mCall (mPure m_lw_bar_01) (mCons (mVar 0) (mCons (mVar 1) (mCons (mVar 2) (mCons (mTup (mCons (mC (.str "go")) (mCons (mVar 6) (mCons (mVar 7) (mNil))))) (mNil)))))) (mC .non))) (sDrop (mBM isCell appF (mVar 5) (mCons (mTup (mCons (mC (.str "go")) (mCons (mVar 6) (mCons (mVar 7) (mNil))))) (mNil)))) (sSkip)))) (sSeq (sFrz 5) (sRet (mVar 5)))))))
/-- law(script); slots: script row house_here told states state hour due turn found k person_here -/
def m_law_03 : Phi := mBody 1 12 (sSeq (sAsg (mLstC (mCons (mVar 0) (mCons (mC (.int 0)) (mCons (mC (.int 0)) (mNil))))) (tNm 1)) (sSeq (sAsg (mCall (mRow m_lw_house) (mCons (mVar 1) (mNil))) (tNm 2)) (sSeq (sAsg (mCall (mPure m_lw_made_01) (mCons (mVar 2) (mNil))) (tNm 3)) (sSeq (sAsg (mOp addD (mLst (mCons (mCall m_begin (mCons (mVar 3) (mNil))) (mNil))) (mLc [10] (mRng1 (mCons (mC (.int 4)) (mNil))) (tNm 10) (mYes) (mCB (pureF tupleD) (mCons (mLc [11] (mItems (mOp ixD (mVar 2) (mC (.int 3)))) (tNm 11) (mYes) (mCall m_lw_taken (mCons (mVar 1) (mCons (mOp ixD (mVar 2) (mC (.int 0))) (mNil))))) (mNil))))) (tNm 4)) (sSeq (sFor (mItems (mVar 4)) (tNm 5) (sSeq (sAsg (mCall m_lw_taken (mCons (mVar 1) (mCons (mC (.int 9)) (mNil)))) (tNm 6)) (sSeq (sAsg (mCall (mPure m_lw_steps_01) (mCons (mVar 2) (mCons (mVar 6) (mCons (mVar 5) (mNil))))) (tNm 7)) (sFor (mRng1 (mCons (mC (.int 2)) (mNil))) (tNm 8) (sSeq (sAsg (mCall m_steps_at_02 (mCons (mVar 3) (mCons (mVar 6) (mCons (mVar 5) (mNil))))) (tNm 9)) (sSeq (sIf (mOr (mNot (mTest (mCB (pureF isiD) (mCons (mVar 9) (mCons (mC (.ty "list")) (mNil)))))) (mTest (mOp neD (mVar 9) (mVar 7)))) (sRet (mC (.bl false))) (sSkip)) (sDrop (mBM isCell appF (mVar 9) (mCons (mTup (mCons (mC (.str "wait")) (mNil))) (mNil)))))))))) (sRet (mC (.bl true))))))))
/-- bad_door(row, zones); slots: row zones far some -/
def m_lw_bad_door : Phi := mBody 2 4 (sSeq (sAsg (mOp mulD (mCall m_lw_taken (mCons (mVar 0) (mCons (mOp powD (mC (.int 10)) (mC (.int 6))) (mNil)))) (mCall m_lw_taken (mCons (mVar 0) (mCons (mC (.int 2)) (mNil))))) (tNm 2)) (sSeq (sAsg (mLst (mCons (mTup (mCons (mC (.int 0)) (mCons (mC (.int 0)) (mCons (mC (.int 1)) (mCons (mC (.int 0)) (mCons (mC (.int 8)) (mNil))))))) (mCons (mTup (mCons (mOp subD (mNeg (mC (.int 1))) (mVar 2)) (mCons (mC (.int 0)) (mCons (mC (.int 1)) (mCons (mC (.int 0)) (mCons (mC (.int 8)) (mNil))))))) (mCons (mTup (mCons (mC (.int 0)) (mCons (mOp addD (mVar 1) (mVar 2)) (mCons (mC (.int 1)) (mCons (mC (.int 0)) (mCons (mC (.int 8)) (mNil))))))) (mCons (mTup (mCons (mC (.int 1)) (mCons (mC (.int 0)) (mCons (mC (.int 1)) (mCons (mC (.int 0)) (mCons (mC (.int 8)) (mNil))))))) (mCons (mTup (mCons (mC (.int 0)) (mCons (mC (.int 1)) (mCons (mC (.int 0)) (mCons (mC (.int 0)) (mCons (mC (.int 8)) (mNil))))))) (mNil))))))) (tNm 3)) (sSeq (sAsg (mOp addD (mVar 3) (mLst (mCons (mTup (mCons (mC (.int 0)) (mCons (mC (.int 1)) (mCons (mOp addD (mC (.int 5)) (mVar 2)) (mCons (mC (.int 0)) (mCons (mC (.int 8)) (mNil))))))) (mCons (mTup (mCons (mC (.int 0)) (mCons (mC (.int 1)) (mCons (mC (.int 1)) (mCons (mC (.int 3)) (mCons (mC (.int 3)) (mNil))))))) (mCons (mTup (mCons (mC (.int 0)) (mCons (mC (.int 1)) (mCons (mC (.int 1)) (mCons (mC (.int 4)) (mCons (mC (.int 3)) (mNil))))))) (mCons (mTup (mCons (mC (.int 0)) (mCons (mC (.int 1)) (mCons (mC (.int 1)) (mCons (mOp subD (mNeg (mC (.int 1))) (mVar 2)) (mCons (mC (.int 8)) (mNil))))))) (mNil))))))) (tNm 3)) (sRet (mOp ixD (mOp addD (mVar 3) (mLst (mCons (mTup (mCons (mC (.int 0)) (mCons (mC (.int 1)) (mCons (mC (.int 1)) (mCons (mC (.int 0)) (mCons (mOp addD (mC (.int 9)) (mVar 2)) (mNil))))))) (mNil)))) (mCall m_lw_taken (mCons (mVar 0) (mCons (mC (.int 10)) (mNil)))))))))
/-- bad_person(row, house_here, at); slots: row house_here at name begin_zone goal most since free_here led zones far bad some -/
def m_lw_bad_person : Phi := mBody 3 14 (sSeq (sAsg (mOp ixD (mOp ixD (mVar 1) (mC (.int 3))) (mVar 2)) (tTp 7 (tsCons (tNm 3) (tsCons (tNm 4) (tsCons (tNm 5) (tsCons (tNm 6) (tsCons (tNm 7) (tsCons (tNm 8) (tsCons (tNm 9) (tsNil)))))))))) (sSeq (sAsg (mOp ixD (mVar 1) (mC (.int 0))) (tNm 10)) (sSeq (sAsg (mCall m_lw_taken (mCons (mVar 0) (mCons (mOp powD (mC (.int 10)) (mC (.int 6))) (mNil)))) (tNm 11)) (sSeq (sAsg (mOp ixD (mLst (mCons (mC (.str "")) (mCons (mC (.str "ninesigns")) (mCons (mC (.str "Ab")) (mCons (mC (.str "a1")) (mCons (mC (.str " a")) (mNil))))))) (mCall m_lw_taken (mCons (mVar 0) (mCons (mC (.int 5)) (mNil))))) (tNm 12)) (sSeq (sAsg (mLst (mCons (mTup (mCons (mVar 12) (mCons (mC (.int 0)) (mCons (mVar 5) (mCons (mVar 6) (mCons (mVar 7) (mCons (mVar 8) (mCons (mVar 9) (mNil))))))))) (mCons (mTup (mCons (mVar 3) (mCons (mOp subD (mOp subD (mC (.int 0)) (mVar 11)) (mC (.int 1))) (mCons (mVar 5) (mCons (mVar 6) (mCons (mVar 7) (mCons (mVar 8) (mCons (mVar 9) (mNil))))))))) (mNil)))) (tNm 13)) (sSeq (sAsg (mOp addD (mVar 13) (mLst (mCons (mTup (mCons (mVar 3) (mCons (mOp addD (mVar 10) (mVar 11)) (mCons (mVar 5) (mCons (mVar 6) (mCons (mVar 7) (mCons (mVar 8) (mCons (mVar 9) (mNil))))))))) (mCons (mTup (mCons (mVar 3) (mCons (mC (.int 0)) (mCons (mOp subD (mNeg (mC (.int 2))) (mVar 11)) (mCons (mVar 6) (mCons (mVar 7) (mCons (mVar 8) (mCons (mVar 9) (mNil))))))))) (mNil))))) (tNm 13)) (sSeq (sAsg (mOp addD (mVar 13) (mLst (mCons (mTup (mCons (mVar 3) (mCons (mC (.int 0)) (mCons (mOp addD (mVar 10) (mVar 11)) (mCons (mVar 6) (mCons (mVar 7) (mCons (mVar 8) (mCons (mVar 9) (mNil))))))))) (mCons (mTup (mCons (mVar 3) (mCons (mC (.int 0)) (mCons (mVar 5) (mCons (mOp subD (mNeg (mC (.int 1))) (mVar 11)) (mCons (mVar 7) (mCons (mVar 8) (mCons (mVar 9) (mNil))))))))) (mNil))))) (tNm 13)) (sSeq (sAsg (mOp addD (mVar 13) (mLst (mCons (mTup (mCons (mVar 3) (mCons (mC (.int 0)) (mCons (mVar 5) (mCons (mOp addD (mC (.int 5)) (mVar 11)) (mCons (mVar 7) (mCons (mVar 8) (mCons (mVar 9) (mNil))))))))) (mCons (mTup (mCons (mVar 3) (mCons (mC (.int 0)) (mCons (mVar 5) (mCons (mVar 6) (mCons (mOp subD (mNeg (mC (.int 1))) (mVar 11)) (mCons (mVar 8) (mCons (mVar 9) (mNil))))))))) (mNil))))) (tNm 13)) (sSeq (sAsg (mOp addD (mVar 13) (mLst (mCons (mTup (mCons (mVar 3) (mCons (mC (.int 0)) (mCons (mVar 5) (mCons (mVar 6) (mCons (mOp addD (mC (.int 9)) (mVar 11)) (mCons (mVar 8) (mCons (mVar 9) (mNil))))))))) (mCons (mTup (mCons (mVar 3) (mCons (mC (.int 0)) (mCons (mVar 5) (mCons (mVar 6) (mCons (mVar 7) (mCons (mTup (mCons (mC (.int 0)) (mNil))) (mCons (mTup (mNil)) (mNil))))))))) (mNil))))) (tNm 13)) (sSeq (sAsg (mOp addD (mVar 13) (mLst (mCons (mTup (mCons (mVar 3) (mCons (mC (.int 0)) (mCons (mVar 5) (mCons (mVar 6) (mCons (mVar 7) (mCons (mTup (mNil)) (mCons (mTup (mCons (mC (.int 0)) (mNil))) (mNil))))))))) (mCons (mTup (mCons (mVar 3) (mCons (mC (.int 0)) (mCons (mVar 5) (mCons (mVar 6) (mCons (mVar 7) (mCons (mTup (mCons (mOp addD (mVar 10) (mVar 11)) (mNil))) (mCons (mTup (mNil)) (mNil))))))))) (mNil))))) (tNm 13)) (sSeq (sAsg (mOp addD (mVar 13) (mLst (mCons (mTup (mCons (mVar 3) (mCons (mC (.int 0)) (mCons (mVar 5) (mCons (mVar 6) (mCons (mVar 7) (mCons (mTup (mNil)) (mCons (mTup (mCons (mOp subD (mNeg (mC (.int 1))) (mVar 11)) (mNil))) (mNil))))))))) (mCons (mTup (mCons (mVar 3) (mCons (mC (.int 0)) (mCons (mVar 5) (mCons (mVar 6) (mCons (mVar 7) (mCons (mTup (mNil)) (mCons (mTup (mCons (mOp addD (mVar 10) (mVar 11)) (mNil))) (mNil))))))))) (mNil))))) (tNm 13)) (sSeq (sIf (mTest (mOp gtD (mVar 10) (mC (.int 1)))) (sAsg (mOp addD (mVar 13) (mLst (mCons (mTup (mCons (mVar 3) (mCons (mC (.int 0)) (mCons (mVar 5) (mCons (mVar 6) (mCons (mVar 7) (mCons (mTup (mCons (mC (.int 1)) (mNil))) (mCons (mTup (mCons (mC (.int 1)) (mNil))) (mNil))))))))) (mCons (mTup (mCons (mVar 3) (mCons (mC (.int 0)) (mCons (mVar 5) (mCons (mVar 6) (mCons (mVar 7) (mCons (mTup (mCons (mC (.int 1)) (mCons (mC (.int 1)) (mNil)))) (mCons (mTup (mNil)) (mNil))))))))) (mNil))))) (tNm 13)) (sSkip)) (sSeq (sIf (mTest (mOp gtD (mVar 10) (mC (.int 2)))) (sAsg (mOp addD (mVar 13) (mLst (mCons (mTup (mCons (mVar 3) (mCons (mC (.int 0)) (mCons (mVar 5) (mCons (mVar 6) (mCons (mVar 7) (mCons (mTup (mCons (mC (.int 2)) (mCons (mC (.int 1)) (mNil)))) (mCons (mTup (mNil)) (mNil))))))))) (mCons (mTup (mCons (mVar 3) (mCons (mC (.int 0)) (mCons (mVar 5) (mCons (mVar 6) (mCons (mVar 7) (mCons (mTup (mNil)) (mCons (mTup (mCons (mC (.int 2)) (mCons (mC (.int 1)) (mNil)))) (mNil))))))))) (mNil))))) (tNm 13)) (sSkip)) (sRet (mOp ixD (mVar 13) (mCall m_lw_taken (mCons (mVar 0) (mCons (mCB (pureF lenD) (mCons (mVar 13) (mNil))) (mNil)))))))))))))))))))
/-- wrong(row, house_here); slots: row house_here zones hours doors people far way bad at made_here safe person_here -/
def m_lw_wrong : Phi := mBody 2 13 (sSeq (sAsg (mVar 1) (tTp 4 (tsCons (tNm 2) (tsCons (tNm 3) (tsCons (tNm 4) (tsCons (tNm 5) (tsNil))))))) (sSeq (sAsg (mCall m_lw_taken (mCons (mVar 0) (mCons (mOp powD (mC (.int 10)) (mC (.int 6))) (mNil)))) (tNm 6)) (sSeq (sAsg (mCall m_lw_taken (mCons (mVar 0) (mCons (mC (.int 10)) (mNil)))) (tNm 7)) (sSeq (sIf (mTest (mOp eqD (mVar 7) (mC (.int 0)))) (sSeq (sAsg (mOp ixD (mLst (mCons (mTup (mCons (mOp subD (mC (.int 0)) (mVar 6)) (mCons (mVar 3) (mNil)))) (mCons (mTup (mCons (mOp addD (mC (.int 5)) (mVar 6)) (mCons (mVar 3) (mNil)))) (mCons (mTup (mCons (mVar 2) (mCons (mOp subD (mNeg (mC (.int 1))) (mVar 6)) (mNil)))) (mCons (mTup (mCons (mVar 2) (mCons (mOp addD (mC (.int 9)) (mVar 6)) (mNil)))) (mNil)))))) (mCall m_lw_taken (mCons (mVar 0) (mCons (mC (.int 4)) (mNil))))) (tNm 8)) (sRet (mTup (mCons (mOp addD (mVar 8) (mTup (mCons (mOp mulD (mLst (mCons (mTup (mCons (mC (.int 9)) (mCons (mC (.int 9)) (mCons (mC (.int 9)) (mCons (mC (.int 9)) (mCons (mC (.int 9)) (mNil))))))) (mNil))) (mC (.int 7))) (mCons (mLst (mNil)) (mNil))))) (mCons (mC (.str "house")) (mCons (mC (.int 0)) (mNil))))))) (sSkip)) (sSeq (sIf (mTest (mOp eqD (mVar 7) (mC (.int 1)))) (sRet (mTup (mCons (mTup (mCons (mVar 2) (mCons (mVar 3) (mCons (mOp mulD (mLst (mCons (mTup (mCons (mC (.int 9)) (mCons (mC (.int 9)) (mCons (mC (.int 9)) (mCons (mC (.int 9)) (mCons (mC (.int 9)) (mNil))))))) (mNil))) (mC (.int 7))) (mCons (mLst (mNil)) (mNil)))))) (mCons (mC (.str "doors")) (mCons (mC (.int 0)) (mNil)))))) (sSkip)) (sSeq (sIf (mTest (mOp eqD (mVar 7) (mC (.int 2)))) (sRet (mTup (mCons (mTup (mCons (mVar 2) (mCons (mVar 3) (mCons (mLst (mCons (mTup (mCons (mC (.int 9)) (mCons (mC (.int 9)) (mCons (mC (.int 9)) (mCons (mC (.int 9)) (mCons (mC (.int 9)) (mNil))))))) (mNil))) (mCons (mOp ixD (mLst (mCons (mLst (mNil)) (mCons (mOp mulD (mSl (mVar 5) (mNoP) (mPart (mC (.int 1)))) (mC (.int 5))) (mNil)))) (mCall m_lw_taken (mCons (mVar 0) (mCons (mC (.int 2)) (mNil))))) (mNil)))))) (mCons (mC (.str "people")) (mCons (mC (.int 0)) (mNil)))))) (sSkip)) (sSeq (sIf (mTest (mOp ltD (mVar 7) (mC (.int 5)))) (sSeq (sAsg (mCall m_lw_taken (mCons (mVar 0) (mCons (mOp addD (mCB (pureF minD) (mCons (mC (.int 5)) (mCons (mCB (pureF lenD) (mCons (mVar 4) (mNil))) (mNil)))) (mC (.int 1))) (mNil)))) (tNm 9)) (sSeq (sAsg (mOp addD (mOp addD (mSl (mVar 4) (mNoP) (mPart (mVar 9))) (mLst (mCons (mCall (mRow m_lw_bad_door) (mCons (mVar 0) (mCons (mVar 2) (mNil)))) (mNil)))) (mSl (mVar 4) (mPart (mVar 9)) (mPart (mC (.int 5))))) (tNm 10)) (sRet (mTup (mCons (mTup (mCons (mVar 2) (mCons (mVar 3) (mCons (mVar 10) (mCons (mOp addD (mSl (mVar 5) (mNoP) (mPart (mC (.int 1)))) (mOp mulD (mLst (mCons (mTup (mCons (mC (.str "")) (mCons (mC (.int 0)) (mCons (mC (.int 0)) (mCons (mC (.int 0)) (mCons (mC (.int 0)) (mCons (mTup (mNil)) (mCons (mTup (mNil)) (mNil))))))))) (mNil))) (mOp subD (mVar 7) (mC (.int 3))))) (mNil)))))) (mCons (mC (.str "door")) (mCons (mVar 9) (mNil)))))))) (sSkip)) (sSeq (sAsg (mCall m_lw_taken (mCons (mVar 0) (mCons (mCB (pureF lenD) (mCons (mVar 5) (mNil))) (mNil)))) (tNm 9)) (sSeq (sIf (mTest (mOp ltD (mVar 7) (mC (.int 8)))) (sSeq (sAsg (mOp addD (mOp addD (mSl (mVar 5) (mNoP) (mPart (mVar 9))) (mLst (mCons (mCall (mRow m_lw_bad_person) (mCons (mVar 0) (mCons (mVar 1) (mCons (mVar 9) (mNil))))) (mNil)))) (mSl (mVar 5) (mPart (mOp addD (mVar 9) (mC (.int 1)))) (mNoP))) (tNm 10)) (sRet (mTup (mCons (mTup (mCons (mVar 2) (mCons (mVar 3) (mCons (mVar 4) (mCons (mVar 10) (mNil)))))) (mCons (mC (.str "person")) (mCons (mVar 9) (mNil))))))) (sSkip)) (sSeq (sIf (mAnd (mTest (mOp eqD (mVar 7) (mC (.int 8)))) (mTest (mOp ltD (mCB (pureF lenD) (mCons (mVar 5) (mNil))) (mC (.int 4))))) (sRet (mTup (mCons (mTup (mCons (mVar 2) (mCons (mVar 3) (mCons (mVar 4) (mCons (mOp addD (mVar 5) (mLst (mCons (mOp ixD (mVar 5) (mVar 9)) (mNil)))) (mNil)))))) (mCons (mC (.str "person")) (mCons (mCB (pureF lenD) (mCons (mVar 5) (mNil))) (mNil)))))) (sSkip)) (sSeq (sAsg (mLcC [12] (mItems (mVar 5)) (tNm 12) (mYes) (mOp addD (mOp addD (mSl (mVar 12) (mNoP) (mPart (mC (.int 1)))) (mTup (mCons (mC (.int 0)) (mNil)))) (mSl (mVar 12) (mPart (mC (.int 2))) (mNoP)))) (tNm 11)) (sSeq (sIf (mTest (mOp eqD (mVar 2) (mC (.int 1)))) (sRet (mTup (mCons (mTup (mCons (mC (.int 0)) (mCons (mVar 3) (mCons (mVar 4) (mCons (mVar 5) (mNil)))))) (mCons (mC (.str "house")) (mCons (mC (.int 0)) (mNil)))))) (sSkip)) (sSeq (sPut (mVar 11) (mVar 9) (mTup (mCons (mOp ixD (mOp ixD (mVar 11) (mVar 9)) (mC (.int 0))) (mCons (mC (.int 1)) (mCons (mNeg (mC (.int 1))) (mCons (mC (.int 0)) (mCons (mC (.int 0)) (mCons (mTup (mNil)) (mCons (mTup (mCons (mC (.int 1)) (mNil))) (mNil)))))))))) (sSeq (sIf (mTest (mOp eqD (mVar 7) (mC (.int 9)))) (sPut (mVar 11) (mVar 9) (mTup (mCons (mOp ixD (mOp ixD (mVar 11) (mVar 9)) (mC (.int 0))) (mCons (mC (.int 1)) (mCons (mNeg (mC (.int 1))) (mCons (mC (.int 4)) (mCons (mC (.int 0)) (mCons (mTup (mNil)) (mCons (mTup (mNil)) (mNil)))))))))) (sSkip)) (sSeq (sFrz 11) (sRet (mTup (mCons (mTup (mCons (mVar 2) (mCons (mVar 3) (mCons (mVar 4) (mCons (mVar 11) (mNil)))))) (mCons (mC (.str "left")) (mCons (mVar 9) (mNil)))))))))))))))))))))
/-- refused(house_here); slots: house_here e others -/
def m_lw_refused_11 : Phi := mBody 1 3 (sSeq (sTry (sDrop (mCall (mPure m_lw_made_01) (mCons (mVar 0) (mNil)))) (exT 7) 1 (sSeq (sAsg (mCB (pureF isED) (mCons (mVar 1) (mCons (mTup (mCons (mC (.cls 3)) (mCons (mC (.cls 6)) (mCons (mC (.cls 4)) (mCons (mC (.cls 5)) (mNil)))))) (mNil)))) (tNm 2)) (sIf (mAnd (mTest (mCB (pureF isED) (mCons (mVar 1) (mCons (mC (.cls 2)) (mNil))))) (mAnd (mTest (mCB (pureF isED) (mCons (mVar 1) (mCons (mC (.ty "ValueError")) (mNil))))) (mNot (mTest (mVar 2))))) (sRet (mTup (mCons (mXf "word" (mVar 1)) (mCons (mXf "number" (mVar 1)) (mNil))))) (sSkip)))) (sRet (mC .non)))
/-- House.doors(self); slots: self -/
def m_House_doorsC : Phi := mBody 1 1 (sRet (mCB listC (mCons (mFld 0 2 (mVar 0)) (mNil))))
/-- House.people(self); slots: self -/
def m_House_peopleC : Phi := mBody 1 1 (sRet (mCB listC (mCons (mFld 0 3 (mVar 0)) (mNil))))
/-- law(script); slots: script row house_here handed told turn wrong_here word number people great -/
def m_law_11 : Phi := mBody 1 11 (sSeq (sAsg (mLstC (mCons (mVar 0) (mCons (mC (.int 0)) (mCons (mC (.int 0)) (mNil))))) (tNm 1)) (sSeq (sAsg (mCall (mRow m_lw_house) (mCons (mVar 1) (mNil))) (tNm 2)) (sSeq (sAsg (mLst (mCons (mCB listC (mCons (mOp ixD (mVar 2) (mC (.int 2))) (mNil))) (mCons (mCB listC (mCons (mOp ixD (mVar 2) (mC (.int 3))) (mNil))) (mNil)))) (tNm 3)) (sSeq (sAsg (mFrz (mMake 0 m_House_init_01 (mCons (mOp ixD (mVar 2) (mC (.int 0))) (mCons (mOp ixD (mVar 2) (mC (.int 1))) (mCons (mOp ixD (mVar 3) (mC (.int 0))) (mCons (mOp ixD (mVar 3) (mC (.int 1))) (mNil))))))) (tNm 4)) (sSeq (sIf (mTest (mOp neD (mVar 3) (mLst (mCons (mOp ixD (mVar 2) (mC (.int 2))) (mCons (mOp ixD (mVar 2) (mC (.int 3))) (mNil)))))) (sRet (mC (.bl false))) (sSkip)) (sSeq (sFor (mRng1 (mCons (mC (.int 2)) (mNil))) (tNm 5) (sSeq (sIf (mOr (mTest (mOp neD (mMeth 0 (mPure (mFz m_House_doorsC)) (mVar 4) mNil) (mOp ixD (mVar 2) (mC (.int 2))))) (mTest (mOp neD (mMeth 0 (mPure (mFz m_House_peopleC)) (mVar 4) mNil) (mOp ixD (mVar 2) (mC (.int 3)))))) (sRet (mC (.bl false))) (sSkip)) (sSeq (sDrop (mBM isCell appF (mMeth 0 m_House_doorsC (mVar 4) mNil) (mCons (mC (.int 0)) (mNil)))) (sSeq (sDrop (mBM isCell clearF (mMeth 0 m_House_peopleC (mVar 4) mNil) mNil)) (sSeq (sDrop (mBM isCell clearF (mOp ixD (mVar 3) (mC (.int 0))) mNil)) (sDrop (mBM isCell clearF (mOp ixD (mVar 3) (mC (.int 1))) mNil))))))) (sSeq (sAsg (mCall (mRow m_lw_wrong) (mCons (mVar 1) (mCons (mVar 2) (mNil)))) (tTp 3 (tsCons (tNm 6) (tsCons (tNm 7) (tsCons (tNm 8) (tsNil)))))) (sSeq (sIf (mTest (mOp neD (mCall (mPure m_lw_refused_11) (mCons (mVar 6) (mNil))) (mTup (mCons (mVar 7) (mCons (mVar 8) (mNil)))))) (sRet (mC (.bl false))) (sSkip)) (sSeq (sAsg (mLstC (mCons (mTup (mCons (mC (.str "abcdefgh")) (mCons (mC (.int 3)) (mCons (mNeg (mC (.int 1))) (mCons (mC (.int 4)) (mCons (mC (.int 8)) (mCons (mTup (mCons (mC (.int 1)) (mCons (mC (.int 2)) (mCons (mC (.int 3)) (mNil))))) (mCons (mTup (mNil)) (mNil))))))))) (mCons (mTup (mCons (mC (.str "b")) (mCons (mC (.int 0)) (mCons (mC (.int 3)) (mCons (mC (.int 0)) (mCons (mC (.int 0)) (mCons (mTup (mNil)) (mCons (mTup (mCons (mC (.int 1)) (mCons (mC (.int 2)) (mCons (mC (.int 3)) (mNil))))) (mNil))))))))) (mCons (mTup (mCons (mC (.str "c")) (mCons (mC (.int 3)) (mCons (mC (.int 0)) (mCons (mC (.int 4)) (mCons (mC (.int 8)) (mCons (mTup (mNil)) (mCons (mTup (mCons (mC (.int 3)) (mNil))) (mNil))))))))) (mNil))))) (tNm 9)) (sSeq (sDrop (mBM isCell appF (mVar 9) (mCons (mTup (mCons (mC (.str "d")) (mCons (mC (.int 2)) (mCons (mC (.int 2)) (mCons (mC (.int 0)) (mCons (mC (.int 8)) (mCons (mTup (mCons (mC (.int 2)) (mNil))) (mCons (mTup (mCons (mC (.int 1)) (mCons (mC (.int 3)) (mNil)))) (mNil))))))))) (mNil)))) (sSeq (sFrz 9) (sSeq (sAsg (mTup (mCons (mC (.int 4)) (mCons (mC (.int 8)) (mCons (mOp mulD (mLst (mCons (mTup (mCons (mC (.int 0)) (mCons (mC (.int 3)) (mCons (mC (.int 4)) (mCons (mC (.int 0)) (mCons (mC (.int 8)) (mNil))))))) (mCons (mTup (mCons (mC (.int 2)) (mCons (mC (.int 3)) (mCons (mC (.int 1)) (mCons (mC (.int 7)) (mCons (mC (.int 8)) (mNil))))))) (mCons (mTup (mCons (mC (.int 0)) (mCons (mC (.int 1)) (mCons (mC (.int 1)) (mCons (mC (.int 0)) (mCons (mC (.int 1)) (mNil))))))) (mNil))))) (mC (.int 2))) (mCons (mVar 9) (mNil)))))) (tNm 10)) (sRet (mAndV (mOp isD (mCall (mPure m_lw_refused_11) (mCons (mVar 10) (mNil))) (mC .non)) (mOp isD (mCall (mPure m_lw_refused_11) (mCons (mTup (mCons (mC (.int 1)) (mCons (mC (.int 0)) (mCons (mLst (mNil)) (mCons (mLst (mCons (mTup (mCons (mC (.str "a")) (mCons (mC (.int 0)) (mCons (mC (.int 0)) (mCons (mC (.int 0)) (mCons (mC (.int 0)) (mCons (mTup (mNil)) (mCons (mTup (mNil)) (mNil))))))))) (mNil))) (mNil)))))) (mNil))) (mC .non))))))))))))))))
end Eb

/-! Eb: reckoning with the meanings. -/
namespace Eb
open PySem L2
open Classical in
/-- data without truth values, cells and objects -/
noncomputable def same (x y : D) : Bool := decide (x = y)
def pl : Nat → D → Bool
  | 0, _ => false
  | _ + 1, .non => true
  | _ + 1, .int _ => true
  | _ + 1, .str x => PyData.strOk x
  | n + 1, .tup ds => ds.all (pl n)
  | n + 1, .lst ds => ds.all (pl n)
  | _ + 1, _ => false
theorem allM_pl {mu : Mu} {n : Nat} (h : ∀ d, pl n d = true → ∃ p, pyD mu n d = some p ∧ p.canLay0 = true ∧ p.depth ≤ n) : ∀ ds : List D, ds.all (pl n) = true → ∃ ps, allM (pyD mu n) ds = some ps ∧ PyData.canLayAll0 ps = true ∧ PyData.depthAll ps ≤ n
  | [], _ => ⟨[], rfl, rfl, Nat.zero_le _⟩
  | d :: ds, e => by
    rw [List.all_cons, Bool.and_eq_true] at e
    obtain ⟨p, h1, h2, h3⟩ := h d e.1
    obtain ⟨ps, g1, g2, g3⟩ := allM_pl h ds e.2
    refine ⟨p :: ps, ?_, ?_, ?_⟩
    · show (match pyD mu n d with | some p => (allM (pyD mu n) ds).map (p :: ·) | none => none) = _
      rw [h1, g1]; rfl
    · simp [PyData.canLayAll0, h2, g2]
    · simp [PyData.depthAll]; omega
theorem pyD_pl {mu : Mu} : ∀ (n : Nat) (d : D), pl n d = true → ∃ p, pyD mu n d = some p ∧ p.canLay0 = true ∧ p.depth ≤ n
  | 0, _, h => by cases h
  | n + 1, .non, _ => ⟨_, rfl, rfl, Nat.zero_le _⟩
  | n + 1, .int i, _ => ⟨_, rfl, rfl, Nat.zero_le _⟩
  | n + 1, .str x, h => ⟨_, rfl, h, Nat.zero_le _⟩
  | n + 1, .tup ds, h => by
    obtain ⟨ps, g1, g2, g3⟩ := allM_pl (pyD_pl n) ds h
    refine ⟨.tuple ps, ?_, g2, by simp [PyData.depth]; omega⟩
    show (allM (pyD mu n) ds).map PyData.tuple = _
    rw [g1]; rfl
  | n + 1, .lst ds, h => by
    obtain ⟨ps, g1, g2, g3⟩ := allM_pl (pyD_pl n) ds h
    refine ⟨.list ps, ?_, g2, by simp [PyData.depth]; omega⟩
    show (allM (pyD mu n) ds).map PyData.list = _
    rw [g1]; rfl
  | n + 1, .bl _, h => by cases h
  | n + 1, .ins _ _, h => by cases h
  | n + 1, .set _, h => by cases h
  | n + 1, .cel _, h => by cases h
  | n + 1, .scr _, h => by cases h
  | n + 1, .ty _, h => by cases h
  | n + 1, .cls _, h => by cases h
theorem eqvAll_pl {mu : Mu} {n : Nat} (h : ∀ d e p q, pl n d = true → pl n e = true → pyD mu n d = some p → pyD mu n e = some q → (PyData.eqv p q = true ↔ d = e)) :
    ∀ (ds es : List D) (ps qs : List PyData), ds.all (pl n) = true → es.all (pl n) = true → allM (pyD mu n) ds = some ps → allM (pyD mu n) es = some qs → (PyData.eqvAll ps qs = true ↔ ds = es)
  | [], [], ps, qs, _, _, e1, e2 => by cases (Option.some.inj e1); cases (Option.some.inj e2); simp [PyData.eqvAll]
  | [], e :: es, ps, qs, _, h2, e1, e2 => by
    cases (Option.some.inj e1)
    have e2 : (match pyD mu n e with | some p => (allM (pyD mu n) es).map (p :: ·) | none => none) = some qs := e2
    split at e2
    · cases ha : allM (pyD mu n) es with
      | none => rw [ha] at e2; cases e2
      | some r => rw [ha] at e2; cases (Option.some.inj e2); simp [PyData.eqvAll]
    · cases e2
  | d :: ds, [], ps, qs, h1, _, e1, e2 => by
    cases (Option.some.inj e2)
    have e1 : (match pyD mu n d with | some p => (allM (pyD mu n) ds).map (p :: ·) | none => none) = some ps := e1
    split at e1
    · cases ha : allM (pyD mu n) ds with
      | none => rw [ha] at e1; cases e1
      | some r => rw [ha] at e1; cases (Option.some.inj e1); simp [PyData.eqvAll]
    · cases e1
  | d :: ds, e :: es, ps, qs, h1, h2, e1, e2 => by
    have e1 : (match pyD mu n d with | some p => (allM (pyD mu n) ds).map (p :: ·) | none => none) = some ps := e1
    have e2 : (match pyD mu n e with | some p => (allM (pyD mu n) es).map (p :: ·) | none => none) = some qs := e2
    rw [List.all_cons, Bool.and_eq_true] at h1 h2
    cases hp : pyD mu n d with
    | none => rw [hp] at e1; cases e1
    | some p =>
      cases hq : pyD mu n e with
      | none => rw [hq] at e2; cases e2
      | some q =>
        rw [hp] at e1
        rw [hq] at e2
        cases ha : allM (pyD mu n) ds with
        | none => simp [ha] at e1
        | some r =>
          cases hb : allM (pyD mu n) es with
          | none => simp [hb] at e2
          | some t =>
            simp [ha] at e1
            simp [hb] at e2
            subst e1 e2
            have i1 := h d e p q h1.1 h2.1 hp hq
            have i2 := eqvAll_pl h ds es r t h1.2 h2.2 ha hb
            simp [PyData.eqvAll, i1, i2]
theorem eqv_pl {mu : Mu} : ∀ (n : Nat) (d e : D) (p q : PyData), pl n d = true → pl n e = true → pyD mu n d = some p → pyD mu n e = some q → (PyData.eqv p q = true ↔ d = e)
  | 0, d, _, _, _, h, _, _, _ => by cases h
  | n + 1, d, e, p, q, h1, h2, e1, e2 => by
    cases d <;> (try (cases h1; done)) <;> cases e <;> (try (cases h2; done))
    all_goals
      first
        | (simp [pyD] at e1 e2; subst e1 e2; simp [PyData.eqv]; done)
        | (simp only [pyD] at e1 e2
           simp only [Option.map_eq_some_iff, Option.some.injEq] at e1 e2
           first
            | (obtain ⟨a, ea, rfl⟩ := e1; obtain ⟨b, eb, rfl⟩ := e2; simp [PyData.eqv, eqvAll_pl (eqv_pl n) _ _ _ _ h1 h2 ea eb]; done)
            | (obtain ⟨a, ea, rfl⟩ := e1; subst e2; simp [PyData.eqv]; done)
            | (obtain ⟨b, eb, rfl⟩ := e2; subst e1; simp [PyData.eqv]; done))
theorem eqB_pl {mu : Mu} {x y : D} (hx : pl 12 x = true) (hy : pl 12 y = true) : eqB mu x y = some (same x y) := by
  obtain ⟨p, h1, h2, h3⟩ := pyD_pl (mu := mu) 12 x hx
  obtain ⟨q, g1, g2, g3⟩ := pyD_pl (mu := mu) 12 y hy
  unfold eqB
  rw [h1, g1]
  have s1 : SeqAt.shaped p = true := by simp [SeqAt.shaped, h2]; omega
  have s2 : SeqAt.shaped q = true := by simp [SeqAt.shaped, g2]; omega
  show (if (SeqAt.shaped p && SeqAt.shaped q) = true then some (PyData.eqv p q) else none) = _
  rw [s1, s2, Bool.and_self, if_pos rfl]
  congr 1
  have := eqv_pl 12 x y p q hx hy h1 g1
  unfold same
  cases he : PyData.eqv p q with
  | true => simp [this.mp he]
  | false =>
    have : ¬ x = y := fun z => by rw [this.mpr z] at he; cases he
    simp [this]
end Eb

/-! Eb: reckoning with the meanings, step by step. -/
namespace Eb
open PySem L2
section
variable {α β : Type} {m : M α} {k : α → M β} {rh r1 : Rho} {mu mu1 : Mu} {a : α} {i : Nat} {d x y z o : D} {ds es : List D}
theorem bindM_ok (h : m rh mu = some (.ok a, mu1)) : bindM m k rh mu = k a rh mu1 := by unfold bindM; rw [h]
theorem bindS_ok {k : α → MS} (h : m rh mu = some (.ok a, mu1)) : bindS m k rh mu = k a rh mu1 := by unfold bindS; rw [h]
def thenM (o : Option (Rs α × Mu)) (k : α → Mu → Option (Rs β × Mu)) : Option (Rs β × Mu) := match o with | some (.ok a, mu1) => k a mu1 | some (.er x, mu1) => some (.er x, mu1) | none => none
def thenB (rh : Rho) (o : Option (Rs α × Mu)) (k : α → Mu → Option (Out × Mu)) : Option (Out × Mu) := match o with | some (.ok a, mu1) => k a mu1 | some (.er x, mu1) => some (.er x rh, mu1) | none => none
def thenS (o : Option (Out × Mu)) (k : Rho → Mu → Option (Out × Mu)) : Option (Out × Mu) := match o with | some (.nx r, mu1) => k r mu1 | o => o
def fin (o : Option (Out × Mu)) : Option (Rs D × Mu) := match o with | some (.nx _, mu') => some (.ok .non, mu') | some (.rt d, mu') => some (.ok d, mu') | some (.er x _, mu') => some (.er x, mu') | _ => none
section
variable {kM : α → Mu → Option (Rs β × Mu)} {kB : α → Mu → Option (Out × Mu)} {kS : Rho → Mu → Option (Out × Mu)} {c : Prop} [Decidable c] {x : Exn} {oM oM' : Option (Rs α × Mu)} {oS oS' : Option (Out × Mu)}
@[simp] theorem tM_ok : thenM (some (.ok a, mu)) kM = kM a mu := rfl
@[simp] theorem tM_er : thenM (some (.er x, mu)) kM = some (.er x, mu) := rfl
@[simp] theorem tM_ite : thenM (if c then oM else oM') kM = if c then thenM oM kM else thenM oM' kM := by split <;> rfl
@[simp] theorem tB_ok : thenB rh (some (.ok a, mu)) kB = kB a mu := rfl
@[simp] theorem tB_er : thenB rh (some (.er x, mu)) kB = some (.er x rh, mu) := rfl
@[simp] theorem tB_ite : thenB rh (if c then oM else oM') kB = if c then thenB rh oM kB else thenB rh oM' kB := by split <;> rfl
@[simp] theorem tS_nx : thenS (some (.nx rh, mu)) kS = kS rh mu := rfl
@[simp] theorem tS_rt {d : D} : thenS (some (.rt d, mu)) kS = some (.rt d, mu) := rfl
@[simp] theorem tS_er : thenS (some (.er x rh, mu)) kS = some (.er x rh, mu) := rfl
@[simp] theorem tS_ite : thenS (if c then oS else oS') kS = if c then thenS oS kS else thenS oS' kS := by split <;> rfl
@[simp] theorem fin_nx : fin (some (.nx rh, mu)) = some (.ok .non, mu) := rfl
@[simp] theorem fin_rt {d : D} : fin (some (.rt d, mu)) = some (.ok d, mu) := rfl
@[simp] theorem fin_er : fin (some (.er x rh, mu)) = some (.er x, mu) := rfl
@[simp] theorem fin_ite : fin (if c then oS else oS') = if c then fin oS else fin oS' := by split <;> rfl
end
@[simp] theorem v_bindM : bindM m k rh mu = thenM (m rh mu) fun a mu1 => k a rh mu1 := rfl
@[simp] theorem v_bindS {k : α → MS} : bindS m k rh mu = thenB rh (m rh mu) fun a mu1 => k a rh mu1 := rfl
@[simp] theorem v_var : mVar i rh mu = (match rh[i]? with | some (some d) => some (.ok d, mu) | _ => none) := rfl
@[simp] theorem v_c : mC d rh mu = some (.ok d, mu) := rfl
@[simp] theorem v_ret : retM a rh mu = some (.ok a, mu) := rfl
@[simp] theorem v_lift {f : Mu → Option α} : lift f rh mu = (f mu).map fun a => (.ok a, mu) := rfl
@[simp] theorem v_op {f : Mu → D → D → Option D} {ma mb : ME} : mOp f ma mb rh mu = bindM ma (fun x => bindM mb fun y => lift fun mu => f mu x y) rh mu := rfl
@[simp] theorem v_test {ma : ME} : mTest ma rh mu = bindM ma (fun d => lift fun _ => boolOf d) rh mu := rfl
@[simp] theorem v_bool {b : Bool} : boolOf (.bl b) = some b := rfl
@[simp] theorem v_and {t u : M Bool} : mAnd t u rh mu = bindM t (fun c => if c = true then u else retM false) rh mu := rfl
@[simp] theorem v_or {t u : M Bool} : mOr t u rh mu = bindM t (fun c => if c = true then retM true else u) rh mu := rfl
@[simp] theorem v_not {t : M Bool} : mNot t rh mu = bindM t (fun c => retM (!c)) rh mu := rfl
@[simp] theorem v_andV {ma mb : ME} : mAndV ma mb rh mu = bindM (mTest ma) (fun c => if c = true then mb else retM (.bl false)) rh mu := rfl
@[simp] theorem v_orV {ma mb : ME} : mOrV ma mb rh mu = bindM (mTest ma) (fun c => if c = true then retM (.bl true) else mb) rh mu := rfl
@[simp] theorem v_notV {ma : ME} : mNotV ma rh mu = bindM (mTest ma) (fun c => retM (.bl (!c))) rh mu := rfl
@[simp] theorem v_if {t : M Bool} {ma mb : ME} : mIf t ma mb rh mu = bindM t (fun c => if c = true then ma else mb) rh mu := rfl
@[simp] theorem v_ch {f f' : Mu → D → D → Option D} {ma mb mc : ME} : mCh f f' ma mb mc rh mu = bindM ma (fun x => bindM mb fun y => bindM (lift fun mu => (f mu x y).bind boolOf) fun k => if k = true then bindM mc fun z => lift fun mu => f' mu y z else retM (.bl false)) rh mu := rfl
@[simp] theorem v_ch3 {f f' f2 : Mu → D → D → Option D} {ma mb mc md : ME} : mCh3 f f' f2 ma mb mc md rh mu = (bindM ma fun x => bindM mb fun y => bindM (lift fun mu => (f mu x y).bind boolOf) fun k => if k = true then
    bindM mc fun z => bindM (lift fun mu => (f' mu y z).bind boolOf) fun k => if k = true then bindM md fun u => lift fun mu => f2 mu z u else retM (.bl false)
  else retM (.bl false)) rh mu := rfl
@[simp] theorem v_nil : mNil rh mu = some (.ok [], mu) := rfl
@[simp] theorem v_cons {ma : ME} {mr : M (List D)} : mCons ma mr rh mu = bindM ma (fun d => bindM mr fun ds => retM (d :: ds)) rh mu := rfl
@[simp] theorem v_tup {mr : M (List D)} : mTup mr rh mu = bindM mr (fun ds => lift fun _ => (few ds).map .tup) rh mu := rfl
@[simp] theorem v_lst {mr : M (List D)} : mLst mr rh mu = bindM mr (fun ds => lift fun _ => (few ds).map .lst) rh mu := rfl
@[simp] theorem few_ok (h : ds.length ≤ 100000) : few ds = some ds := if_pos h
@[simp] theorem v_fld {c i : Nat} {ma : ME} : mFld c i ma rh mu = bindM ma (fun d => lift fun mu => (insOf mu d).bind fun p => if p.1 = c then p.2[i]? else none) rh mu := rfl
@[simp] theorem v_call {f : Phi} {mr : M (List D)} : mCall f mr rh mu = bindM mr (fun ds _ mu => f ds mu) rh mu := rfl
@[simp] theorem v_cb {h : CallF} {mr : M (List D)} : mCB h mr rh mu = bindM mr (fun ds _ mu => (h ds mu).map fun p => (.ok p.1, p.2)) rh mu := rfl
@[simp] theorem v_pureF {f : Mu → List D → Option D} : pureF f ds mu = (f mu ds).map fun d => (d, mu) := rfl
@[simp] theorem v_sl {ma : ME} {ml mh : M (Option Int)} : mSl ma ml mh rh mu = bindM ma (fun x => bindM ml fun lo => bindM mh fun hi => lift fun mu => slD mu x lo hi) rh mu := rfl
@[simp] theorem v_part {ma : ME} : mPart ma rh mu = bindM ma (fun d => lift fun _ => match d with | .int i => some (some i) | _ => none) rh mu := rfl
@[simp] theorem v_noP : mNoP rh mu = some (.ok none, mu) := rfl
@[simp] theorem v_items {ma : ME} : mItems ma rh mu = bindM ma (fun d => lift fun _ => itemsOf d) rh mu := rfl
@[simp] theorem v_rng1 {mr : M (List D)} : mRng1 mr rh mu = bindM mr (fun ds => lift fun _ => rng1 ds) rh mu := rfl
@[simp] theorem v_rng2 {mr : M (List D)} : mRng2 mr rh mu = bindM mr (fun ds => lift fun _ => rng2 ds) rh mu := rfl
@[simp] theorem v_neg {ma : ME} : mNeg ma rh mu = bindM ma (fun d => lift fun _ => match d with | .int i => some (.int (-i)) | _ => none) rh mu := rfl
@[simp] theorem v_bm {chk : Mu → D → Bool} {f : MtF} {mo : ME} {mr : M (List D)} : mBM chk f mo mr rh mu = bindM mo (fun o => bindM (lift fun mu => if chk mu o then some () else none) fun _ => bindM mr fun ds _ mu => (f o ds mu).map fun p => (.ok p.1, p.2)) rh mu := rfl
@[simp] theorem v_yes : mYes rh mu = some (.ok true, mu) := rfl
theorem v_ite {γ : Type} {c : Prop} [Decidable c] {f g : Rho → Mu → γ} : (if c then f else g) rh mu = if c then f rh mu else g rh mu := by split <;> rfl
@[simp] theorem v_iteE {c : Prop} [Decidable c] {f g : ME} : (if c then f else g) rh mu = if c then f rh mu else g rh mu := v_ite
@[simp] theorem v_iteT {c : Prop} [Decidable c] {f g : M Bool} : (if c then f else g) rh mu = if c then f rh mu else g rh mu := v_ite
@[simp] theorem v_ok {c : Prop} [Decidable c] {a b : α} : (if c then some (Rs.ok a, mu) else some (Rs.ok b, mu)) = some (Rs.ok (if c then a else b), mu) := by split <;> rfl
@[simp] theorem v_iteB {c : Prop} [Decidable c] {a b : Bool} : (if c then D.bl a else D.bl b) = D.bl (if c then a else b) := by split <;> rfl
-- statements
@[simp] theorem v_skip : sSkip rh mu = some (.nx rh, mu) := rfl
@[simp] theorem v_seq {a b : MS} : sSeq a b rh mu = thenS (a rh mu) b := rfl
@[simp] theorem v_iteS {c : Prop} [Decidable c] {f g : MS} : (if c then f else g) rh mu = if c then f rh mu else g rh mu := v_ite
@[simp] theorem v_asg {ma : ME} {t : Tg} : sAsg ma t rh mu = bindS ma (fun d rh mu => (t d rh).map fun r => (.nx r, mu)) rh mu := rfl
@[simp] theorem v_drop {ma : ME} : sDrop ma rh mu = bindS ma (fun _ => sSkip) rh mu := rfl
@[simp] theorem v_retS {ma : ME} : sRet ma rh mu = bindS ma (fun d _ mu => some (.rt d, mu)) rh mu := rfl
@[simp] theorem v_retN : sRetN rh mu = some (.rt .non, mu) := rfl
@[simp] theorem v_ifS {t : M Bool} {a b : MS} : sIf t a b rh mu = bindS t (fun c => if c = true then a else b) rh mu := rfl
@[simp] theorem v_for {it : M (List D)} {t : Tg} {b : MS} : sFor it t b rh mu = bindS it (fun ds => loopS t b ds) rh mu := rfl
@[simp] theorem v_nm : tNm i d rh = some (rh.set i (some d)) := rfl
@[simp] theorem v_tsNil : tsNil [] rh = some rh := rfl
@[simp] theorem v_tsCons {t : Tg} {u : Tgs} : tsCons t u (d :: ds) rh = (t d rh).bind (u ds) := rfl
@[simp] theorem v_tp {n : Nat} {u : Tgs} : tTp n u (.tup ds) rh = if ds.length = n then u ds rh else none := rfl
@[simp] theorem v_body {np n : Nat} {b : MS} : mBody np n b ds mu = if ds.length = np then fin (b (ds.map some ++ List.replicate (n - np) none) mu) else none := rfl
@[simp] theorem v_put {mo mi mv : ME} : sPut mo mi mv rh mu = bindS mv (fun y => bindS mo fun o => bindS mi fun i rh mu => (stIx o i y mu).map fun mu' => (.nx rh, mu')) rh mu := rfl
@[simp] theorem v_stIx {k : Nat} {j : Int} : stIx (.cel k) (.int j) y mu = (match mu[k]? with | some (.lst ds) => (ixN ds.length j).map fun n => mu.set k (.lst (ds.set n y)) | _ => none) := rfl
@[simp] theorem v_listC : listC [.tup ds] mu = some (.cel mu.length, mu ++ [.lst ds]) := rfl
@[simp] theorem v_listCl : listC [.lst ds] mu = some (.cel mu.length, mu ++ [.lst ds]) := rfl
@[simp] theorem v_lstC {mr : M (List D)} : mLstC mr rh mu = bindM mr (fun ds _ mu => (few ds).map fun es => (.ok (.cel mu.length), mu ++ [.lst es])) rh mu := rfl
@[simp] theorem v_frz : sFrz i rh mu = (match rh[i]? with | some (some d) => (frzD d mu).map fun p => (.nx (rh.set i (some p.1)), p.2) | _ => none) := rfl
@[simp] theorem v_frzM {ma : ME} : mFrz ma rh mu = bindM ma (fun d _ mu => (frzD d mu).map fun p => (.ok p.1, p.2)) rh mu := rfl
@[simp] theorem v_frzD {k : Nat} : frzD (.cel k) mu = (match mu[k]? with | some (.lst ds) => some (.lst ds, mu.set k .dead) | some (.ins c ds) => some (.ins c ds, mu.set k .dead) | _ => none) := rfl
@[simp] theorem v_app {k : Nat} : appF (.cel k) [d] mu = (match mu[k]? with | some (.lst xs) => if xs.length < 100000 then some (.non, mu.set k (.lst (xs ++ [d]))) else none | _ => none) := rfl
@[simp] theorem v_isCell {k : Nat} : isCell mu (.cel k) = (match mu[k]? with | some (.lst _) => true | _ => false) := rfl
@[simp] theorem v_stF {c i : Nat} {mo mv : ME} : sFldM c i mo mv rh mu = bindS mv (fun y => bindS mo fun o rh mu => (stF c i o y mu).map fun mu' => (.nx rh, mu')) rh mu := rfl
@[simp] theorem v_stFc {c i k : Nat} : stF c i (.cel k) y mu = (match mu[k]? with
    | some (.ins c' ds) => if c' = c then (if i < ds.length then some (mu.set k (.ins c (ds.set i y))) else if i = ds.length then some (mu.set k (.ins c (ds ++ [y]))) else none) else none
    | _ => none) := rfl
@[simp] theorem v_meth {c : Nat} {f : Phi} {ma : ME} {mr : M (List D)} : mMeth c f ma mr rh mu = bindM ma (fun o => bindM (lift fun mu => (insOf mu o).bind fun p => if p.1 = c then some () else none) fun _ => bindM mr fun ds _ mu => f (o :: ds) mu) rh mu := rfl
@[simp] theorem v_insC {k : Nat} : insOf mu (.cel k) = (match mu[k]? with | some (.ins c ds) => some (c, ds) | _ => none) := rfl
@[simp] theorem v_insI {c : Nat} : insOf mu (.ins c ds) = some (c, ds) := rfl
@[simp] theorem v_ixC {k : Nat} {j : Int} : ixD mu (.cel k) (.int j) = (match mu[k]? with | some (.lst ds) => atI ds j | _ => none) := by
  show (match (match mu[k]? with | some (.lst ds) => some ds | _ => none) with | some ds => atI ds j | none => none) = _
  cases mu[k]? with
  | none => rfl
  | some c => cases c <;> rfl
@[simp] theorem c_get {c : Cell} : (mu ++ [c])[mu.length]? = some c := by simp
@[simp] theorem c_set {c c' : Cell} : (mu ++ [c]).set mu.length c' = mu ++ [c'] := by
  rw [List.set_append_right _ _ (Nat.le_refl _)]
  simp
@[simp] theorem v_rng3 {mr : M (List D)} : mRng3 mr rh mu = bindM mr (fun ds => lift fun _ => rng3 ds) rh mu := rfl
theorem o_neC {k : Nat} (h : mu[k]? = some (.lst ds)) : neD mu (.cel k) y = neD mu (.lst ds) y := by
  have : pyD mu 12 (.cel k) = pyD mu 12 (.lst ds) := by
    show (match mu[k]? with | some (.lst ds) => (allM (pyD mu 11) ds).map PyData.list | _ => none) = _
    rw [h]
    rfl
  unfold neD eqB
  rw [this]
-- operations
@[simp] theorem o_add {a b : Int} : addD mu (.int a) (.int b) = some (.int (a + b)) := rfl
@[simp] theorem o_addS {a b : Str} : addD mu (.str a) (.str b) = lim (a.length + b.length) (.str (a ++ b)) := rfl
@[simp] theorem o_addT : addD mu (.tup ds) (.tup es) = lim (ds.length + es.length) (.tup (ds ++ es)) := rfl
@[simp] theorem o_addL : addD mu (.lst ds) (.lst es) = lim (ds.length + es.length) (.lst (ds ++ es)) := rfl
theorem lim_ok {n : Nat} (h : n ≤ 100000) : lim n d = some d := if_pos h
@[simp] theorem o_sub {a b : Int} : subD mu (.int a) (.int b) = some (.int (a - b)) := rfl
@[simp] theorem o_mul {a b : Int} : mulD mu (.int a) (.int b) = if smallI a || smallI b then some (.int (a * b)) else none := rfl
@[simp] theorem o_mod {a b : Int} : modD mu (.int a) (.int b) = if 0 < b then some (.int (a % b)) else none := rfl
@[simp] theorem o_div {a b : Int} : fdivD mu (.int a) (.int b) = if 0 < b ∧ b < 1000000000 then some (.int (a / b)) else none := rfl
@[simp] theorem o_lt {a b : Int} : ltD mu (.int a) (.int b) = some (.bl (decide (a < b))) := rfl
@[simp] theorem o_le {a b : Int} : leD mu (.int a) (.int b) = some (.bl (decide (a ≤ b))) := rfl
@[simp] theorem o_gt {a b : Int} : gtD mu (.int a) (.int b) = some (.bl (decide (b < a))) := rfl
@[simp] theorem o_ge {a b : Int} : geD mu (.int a) (.int b) = some (.bl (decide (b ≤ a))) := rfl
@[simp] theorem o_eq {a b : Int} : eqD mu (.int a) (.int b) = some (.bl (decide (a = b))) := by
  unfold eqD
  rw [eqB_pl rfl rfl]
  simp [same]
@[simp] theorem o_ne {a b : Int} : neD mu (.int a) (.int b) = some (.bl (decide (a ≠ b))) := by
  unfold neD
  rw [eqB_pl rfl rfl]
  simp [same]
theorem o_eqP (hx : pl 12 x = true) (hy : pl 12 y = true) : eqD mu x y = some (.bl (same x y)) := by
  unfold eqD
  rw [eqB_pl hx hy]
  rfl
theorem o_neP (hx : pl 12 x = true) (hy : pl 12 y = true) : neD mu x y = some (.bl (!same x y)) := by
  unfold neD
  rw [eqB_pl hx hy]
  rfl
@[simp] theorem o_is : isD mu x .non = some (.bl (nonB x)) := by cases x <;> rfl
@[simp] theorem o_isnot : isnotD mu x .non = some (.bl (!nonB x)) := by cases x <;> rfl
@[simp] theorem nonB_non : nonB .non = true := rfl
@[simp] theorem nonB_int {a : Int} : nonB (.int a) = false := rfl
@[simp] theorem nonB_tup : nonB (.tup ds) = false := rfl
@[simp] theorem o_ixT {a : Int} : ixD mu (.tup ds) (.int a) = atI ds a := rfl
@[simp] theorem o_ixL {a : Int} : ixD mu (.lst ds) (.int a) = atI ds a := rfl
@[simp] theorem o_ixR {ns : List Int} {a : Int} : ixD mu (.scr ns) (.int a) = (atI ns a).map .int := rfl
@[simp] theorem o_ixS {z : Str} {a : Int} : ixD mu (.str z) (.int a) = if z.length ≤ 100000 then (atI z.cps.toList a).map fun c => .str ⟨#[c]⟩ else none := rfl
theorem lstOf_c {k : Nat} (h : mu[k]? = some (.lst ds)) : lstOf mu (.cel k) = some ds := by
  show (match mu[k]? with | some (.lst ds) => some ds | _ => none) = _
  rw [h]
theorem o_ixC {a : Int} {k : Nat} (h : mu[k]? = some (.lst ds)) : ixD mu (.cel k) (.int a) = atI ds a := by
  show (match lstOf mu (.cel k) with | some ds => atI ds a | none => none) = _
  rw [lstOf_c h]
@[simp] theorem o_lenT : lenD mu [.tup ds] = some (.int ds.length) := rfl
@[simp] theorem o_lenL : lenD mu [.lst ds] = some (.int ds.length) := rfl
@[simp] theorem o_lenR {ns : List Int} : lenD mu [.scr ns] = some (.int ns.length) := rfl
@[simp] theorem o_lenS {z : Str} : lenD mu [.str z] = if z.length ≤ 100000 then some (.int z.length) else none := rfl
@[simp] theorem o_listT : listD mu [.tup ds] = some (.lst ds) := rfl
@[simp] theorem o_listL : listD mu [.lst ds] = some (.lst ds) := rfl
@[simp] theorem o_tupT : tupleD mu [.tup ds] = some (.tup ds) := rfl
@[simp] theorem o_tupL : tupleD mu [.lst ds] = some (.tup ds) := rfl
@[simp] theorem o_sumL : sumD mu [.lst ds] = (intsOf ds).map fun (ns : List Int) => .int ns.sum := rfl
@[simp] theorem o_intI {a : Int} : intD mu [.int a] = some (.int a) := rfl
@[simp] theorem o_intB {b : Bool} : intD mu [.bl b] = some (.int (if b then 1 else 0)) := rfl
@[simp] theorem o_itL : itemsOf (.lst ds) = some ds := rfl
@[simp] theorem o_itT : itemsOf (.tup ds) = some ds := rfl
@[simp] theorem o_slT {lo hi : Option Int} : slD mu (.tup ds) lo hi = some (.tup (cutL ds lo hi)) := rfl
@[simp] theorem o_slL {lo hi : Option Int} : slD mu (.lst ds) lo hi = some (.lst (cutL ds lo hi)) := rfl
end
/-! ### lists of ints -/
abbrev dI (l : List Int) : List D := l.map .int
abbrev dN (l : List Nat) : List D := l.map fun (n : Nat) => .int (n : Int)
theorem ixN_lit {n : Nat} {j : Nat} (h : j < n) : ixN n (j : Int) = some j := by
  unfold ixN
  rw [if_pos (by omega), if_pos (by omega)]
  simp
@[simp] theorem ixN_1 {n : Nat} : ixN (n + 1 + 1) 1 = some 1 := ixN_lit (j := 1) (by omega)
@[simp] theorem ixN_2 {n : Nat} : ixN (n + 1 + 1 + 1) 2 = some 2 := ixN_lit (j := 2) (by omega)
theorem atI_nat {α : Type} {l : List α} {n : Nat} : atI l (n : Int) = l[n]? := by
  unfold atI ixN
  rw [if_pos (Int.natCast_nonneg n)]
  by_cases h : n < l.length
  · rw [if_pos (by omega)]
    simp
  · rw [if_neg (by omega), List.getElem?_eq_none (by omega)]
    rfl
@[simp] theorem atI_n {α : Type} {l : List α} {n : Nat} : atI l (n : Int) = l[n]? := atI_nat
@[simp] theorem atI_0 {α : Type} {l : List α} : atI l 0 = l[0]? := atI_nat (n := 0)
@[simp] theorem atI_1 {α : Type} {l : List α} : atI l 1 = l[1]? := atI_nat (n := 1)
@[simp] theorem atI_2 {α : Type} {l : List α} : atI l 2 = l[2]? := atI_nat (n := 2)
@[simp] theorem atI_3 {α : Type} {l : List α} : atI l 3 = l[3]? := atI_nat (n := 3)
@[simp] theorem atI_4 {α : Type} {l : List α} : atI l 4 = l[4]? := atI_nat (n := 4)
@[simp] theorem atI_5 {α : Type} {l : List α} : atI l 5 = l[5]? := atI_nat (n := 5)
@[simp] theorem atI_6 {α : Type} {l : List α} : atI l 6 = l[6]? := atI_nat (n := 6)
theorem vsOf_I : ∀ l : List Int, vsOf (dI l) = some (l.map V.int)
  | [] => rfl
  | i :: l => by
    show (match vOf (.int i) with | some v => (vsOf (dI l)).map (v :: ·) | none => none) = _
    rw [vsOf_I l]
    rfl
theorem inV_I (a : Int) (l : List Int) : inV (.int a) (l.map V.int) = decide (a ∈ l) := by
  unfold inV
  induction l with
  | nil => rfl
  | cons b l ih =>
    rw [List.map_cons, List.any_cons, ih]
    show ((b == a) || _) = _
    by_cases h : a = b
    · simp [h]
    · have : (b == a) = false := by simpa using fun z => h z.symm
      rw [this]
      simp [h]
theorem inB_I {mu : Mu} {a : Int} {l : List Int} : inB mu (.int a) (.lst (dI l)) = some (decide (a ∈ l)) := by
  show ((vsOf (dI l)).map fun vs => inV (.int a) vs) = _
  rw [vsOf_I, Option.map_some, inV_I]
theorem inB_T {mu : Mu} {a : Int} {l : List Int} : inB mu (.int a) (.tup (dI l)) = some (decide (a ∈ l)) := by
  show ((vsOf (dI l)).map fun vs => inV (.int a) vs) = _
  rw [vsOf_I, Option.map_some, inV_I]
@[simp] theorem o_inL {mu : Mu} {a : Int} {l : List Int} : inD mu (.int a) (.lst (dI l)) = some (.bl (decide (a ∈ l))) := by unfold inD; rw [inB_I]; rfl
@[simp] theorem o_inT {mu : Mu} {a : Int} {l : List Int} : inD mu (.int a) (.tup (dI l)) = some (.bl (decide (a ∈ l))) := by unfold inD; rw [inB_T]; rfl
@[simp] theorem o_ninL {mu : Mu} {a : Int} {l : List Int} : notinD mu (.int a) (.lst (dI l)) = some (.bl (decide (a ∉ l))) := by unfold notinD; rw [inB_I]; simp
@[simp] theorem o_ninT {mu : Mu} {a : Int} {l : List Int} : notinD mu (.int a) (.tup (dI l)) = some (.bl (decide (a ∉ l))) := by unfold notinD; rw [inB_T]; simp
theorem dN_I (l : List Nat) : dN l = dI (l.map fun (n : Nat) => (n : Int)) := by simp [dI, dN, Function.comp_def]
theorem mem_cast {n : Nat} {l : List Nat} : (n : Int) ∈ l.map (fun (n : Nat) => (n : Int)) ↔ n ∈ l := by
  rw [List.mem_map]
  constructor
  · rintro ⟨a, h, e⟩
    have : a = n := by omega
    exact this ▸ h
  · exact fun h => ⟨n, h, rfl⟩
@[simp] theorem o_inLN {mu : Mu} {n : Nat} {l : List Nat} : inD mu (.int n) (.lst (dN l)) = some (.bl (decide (n ∈ l))) := by rw [dN_I, o_inL]; simp [mem_cast]
@[simp] theorem o_inTN {mu : Mu} {n : Nat} {l : List Nat} : inD mu (.int n) (.tup (dN l)) = some (.bl (decide (n ∈ l))) := by rw [dN_I, o_inT]; simp [mem_cast]
@[simp] theorem o_ninLN {mu : Mu} {n : Nat} {l : List Nat} : notinD mu (.int n) (.lst (dN l)) = some (.bl (decide (n ∉ l))) := by rw [dN_I, o_ninL]; simp [mem_cast]
@[simp] theorem o_ninTN {mu : Mu} {n : Nat} {l : List Nat} : notinD mu (.int n) (.tup (dN l)) = some (.bl (decide (n ∉ l))) := by rw [dN_I, o_ninT]; simp [mem_cast]
@[simp] theorem intsOf_I : ∀ l : List Int, intsOf (dI l) = some l
  | [] => rfl
  | i :: l => by
    show (intsOf (dI l)).map (i :: ·) = _
    rw [intsOf_I l]; rfl
theorem rngD_0 (n : Nat) : rngD 0 n = dN (List.range n) := by simp [rngD, dN]
@[simp] theorem r_1 {n : Nat} (h : n ≤ 1000000) : rng1 [.int (n : Int)] = some (dN (List.range n)) := by
  show (if -1000000 ≤ (n : Int) ∧ (n : Int) ≤ 1000000 then some (rngD 0 (n : Int).toNat) else none) = _
  rw [if_pos (by omega), Int.toNat_natCast, rngD_0]
@[simp] theorem intsOf_M {α : Type} (f : α → Int) : ∀ l : List α, intsOf (l.map fun a => .int (f a)) = some (l.map f)
  | [] => rfl
  | i :: l => by
    show (intsOf (l.map fun a => .int (f a))).map (f i :: ·) = _
    rw [intsOf_M f l]; rfl
theorem pl_I (n : Nat) (l : List Int) : (dI l).all (pl (n + 1)) = true := by
  rw [List.all_map, List.all_eq_true]
  intro a _
  rfl
theorem same_nil (ds : List D) : same (.lst ds) (.lst []) = ds.isEmpty := by
  unfold same
  cases ds <;> simp
theorem same_nilT (ds : List D) : same (.tup ds) (.tup []) = ds.isEmpty := by
  unfold same
  cases ds <;> simp
@[simp] theorem o_neNilI {mu : Mu} {l : List Int} : neD mu (.lst (dI l)) (.lst []) = some (.bl (!l.isEmpty)) := by
  rw [o_neP (by exact pl_I 10 l) rfl, same_nil]
  simp
@[simp] theorem o_neNilN {mu : Mu} {l : List Nat} : neD mu (.lst (dN l)) (.lst []) = some (.bl (!l.isEmpty)) := by
  rw [dN_I, o_neNilI]
  simp
/-! ### comprehensions and loops -/
@[simp] theorem fil_true {α : Type} {l : List α} : l.filter (fun _ => true) = l := List.filter_eq_self.mpr fun _ _ => rfl
section
variable {t : Tg} {c : M Bool} {m : ME} {rh0 : Rho} {mu : Mu} {own : List Nat} {it : M (List D)} {rh : Rho}
/-- a comprehension over data that a function makes -/
theorem lc_map {α : Type} {ds : List α} {f : α → D} {j : Nat} (p : α → Bool) (g : α → D) (hc : ∀ a ∈ ds, c (rh0.set j (some (f a))) mu = some (.ok (p a), mu)) (hm : ∀ a ∈ ds, p a = true → m (rh0.set j (some (f a))) mu = some (.ok (g a), mu)) :
    lcLoop (tNm j) c m rh0 (ds.map f) mu = some (((ds.filter p).map g), mu) := by
  induction ds with
  | nil => rfl
  | cons a ds ih =>
    have h1 := hc a List.mem_cons_self
    have ih := ih (fun b hb => hc b (List.mem_cons_of_mem _ hb)) (fun b hb => hm b (List.mem_cons_of_mem _ hb))
    show (match c (rh0.set j (some (f a))) mu with
      | some (.ok true, mu1) => (match m (rh0.set j (some (f a))) mu1 with
        | some (.ok y, mu2) => (lcLoop (tNm j) c m rh0 (ds.map f) mu2).map fun (p : List D × Mu) => (y :: p.1, p.2)
        | _ => none)
      | some (.ok false, mu1) => lcLoop (tNm j) c m rh0 (ds.map f) mu1
      | _ => none) = _
    rw [h1]
    cases hp : p a with
    | true =>
      have h2 := hm a List.mem_cons_self hp
      simp only [h2, ih, Option.map_some, List.filter_cons, hp, if_true, List.map_cons]
    | false => simp only [ih, List.filter_cons, hp, Bool.false_eq_true, if_false]
theorem lc_ev {α : Type} {ds : List α} {f : α → D} {j : Nat} (p : α → Bool) (g : α → D) (hi : it rh mu = some (.ok (ds.map f), mu)) (hl : ds.length ≤ 100000) (hc : ∀ a ∈ ds, c ((wipeR rh [j]).set j (some (f a))) mu = some (.ok (p a), mu)) (hm : ∀ a ∈ ds, p a = true → m ((wipeR rh [j]).set j (some (f a))) mu = some (.ok (g a), mu)) :
    mLc [j] it (tNm j) c m rh mu = some (.ok (.lst ((ds.filter p).map g)), mu) := by
  unfold mLc
  rw [bindM_ok hi]
  simp only [lc_map p g hc hm]
  rw [few_ok (by rw [List.length_map]; exact Nat.le_trans (List.length_filter_le _ _) hl)]
  rfl
theorem loop_find {α : Type} {ds : List α} {f : α → D} {j : Nat} {b : MS} (I : Rho → Prop) (p : α → Bool) (g : α → D)
    (hs : ∀ a ∈ ds, ∀ rh, I rh → (p a = true → b (rh.set j (some (f a))) mu = some (.rt (g a), mu)) ∧ (p a = false → ∃ r', b (rh.set j (some (f a))) mu = some (.nx r', mu) ∧ I r')) {rh : Rho} (h0 : I rh) :
    match ds.find? p with
    | some a => loopS (tNm j) b (ds.map f) rh mu = some (.rt (g a), mu)
    | none => ∃ r', loopS (tNm j) b (ds.map f) rh mu = some (.nx r', mu) ∧ I r' := by
  induction ds generalizing rh with
  | nil => exact ⟨rh, rfl, h0⟩
  | cons a ds ih =>
    obtain ⟨h1, h2⟩ := hs a List.mem_cons_self rh h0
    have un : loopS (tNm j) b ((a :: ds).map f) rh mu = (match b (rh.set j (some (f a))) mu with
      | some (.nx r, mu1) => loopS (tNm j) b (ds.map f) r mu1
      | some (.ct r, mu1) => loopS (tNm j) b (ds.map f) r mu1
      | some (.bk r, mu1) => some (.nx r, mu1)
      | o => o) := rfl
    cases hp : p a with
    | true =>
      rw [List.find?_cons_of_pos hp, un, h1 hp]
    | false =>
      obtain ⟨r', h3, h4⟩ := h2 hp
      rw [List.find?_cons_of_neg (by simp [hp]), un, h3]
      exact ih (fun b hb => hs b (List.mem_cons_of_mem _ hb)) h4
theorem seq_find {α : Type} {ds : List α} {f : α → D} {j : Nat} {b rest : MS} {it : M (List D)} {rh : Rho} {out : Option (Out × Mu)} (I : Rho → Prop) (p : α → Bool) (g : α → D) (hi : it rh mu = some (.ok (ds.map f), mu)) (h0 : I rh)
    (hs : ∀ a ∈ ds, ∀ rh, I rh → (p a = true → b (rh.set j (some (f a))) mu = some (.rt (g a), mu)) ∧ (p a = false → ∃ r', b (rh.set j (some (f a))) mu = some (.nx r', mu) ∧ I r'))
    (hr : ds.find? p = none → ∀ r', I r' → rest r' mu = out) : thenS (sFor it (tNm j) b rh mu) rest = match ds.find? p with | some a => some (.rt (g a), mu) | none => out := by
  have L := loop_find I p g hs h0
  have e : sFor it (tNm j) b rh mu = loopS (tNm j) b (ds.map f) rh mu := by
    show bindS it (fun ds => loopS (tNm j) b ds) rh mu = _
    rw [bindS_ok hi]
  rw [e]
  cases hf : ds.find? p with
  | some a => rw [hf] at L; simp only at L; rw [L]; rfl
  | none =>
    rw [hf] at L
    obtain ⟨r', h1, h2⟩ := L
    rw [h1]
    exact hr hf r' h2
theorem loop_fold {α σ : Type} {ds : List α} {f : α → D} {j : Nat} {b : MS} (F : σ → α → σ) (I : σ → Rho → Mu → Prop)
    (hs : ∀ a ∈ ds, ∀ s rh mu, I s rh mu → ∃ r' mu', b (rh.set j (some (f a))) mu = some (.nx r', mu') ∧ I (F s a) r' mu') {s : σ} {rh : Rho} {mu : Mu} (h0 : I s rh mu) :
    ∃ r' mu', loopS (tNm j) b (ds.map f) rh mu = some (.nx r', mu') ∧ I (ds.foldl F s) r' mu' := by
  induction ds generalizing s rh mu with
  | nil => exact ⟨rh, mu, rfl, h0⟩
  | cons a ds ih =>
    obtain ⟨r', mu', h1, h2⟩ := hs a List.mem_cons_self s rh mu h0
    have un : loopS (tNm j) b ((a :: ds).map f) rh mu = (match b (rh.set j (some (f a))) mu with
      | some (.nx r, mu1) => loopS (tNm j) b (ds.map f) r mu1
      | some (.ct r, mu1) => loopS (tNm j) b (ds.map f) r mu1
      | some (.bk r, mu1) => some (.nx r, mu1)
      | o => o) := rfl
    rw [un, h1]
    exact ih (fun b hb => hs b (List.mem_cons_of_mem _ hb)) h2
theorem seq_fold {α σ : Type} {ds : List α} {f : α → D} {j : Nat} {b rest : MS} {it : M (List D)} {rh : Rho} {mu mu1 : Mu} (F : σ → α → σ) (I : σ → Rho → Mu → Prop) (s : σ) (hi : it rh mu = some (.ok (ds.map f), mu1)) (h0 : I s rh mu1)
    (hs : ∀ a ∈ ds, ∀ s rh mu, I s rh mu → ∃ r' mu', b (rh.set j (some (f a))) mu = some (.nx r', mu') ∧ I (F s a) r' mu')
    (P : Option (Out × Mu) → Prop) (hr : ∀ r' mu', I (ds.foldl F s) r' mu' → P (rest r' mu')) : P (thenS (sFor it (tNm j) b rh mu) rest) := by
  obtain ⟨r', mu', h1, h2⟩ := loop_fold F I hs h0
  have e : sFor it (tNm j) b rh mu = loopS (tNm j) b (ds.map f) rh mu1 := by
    show bindS it (fun ds => loopS (tNm j) b ds) rh mu = _
    rw [bindS_ok hi]
  rw [e, h1]
  exact hr r' mu' h2
theorem seq_nx {α : Type} {ds : List α} {f : α → D} {j : Nat} {b rest : MS} {it : M (List D)} {rh : Rho} {mu mu1 : Mu} (I : Rho → Prop) (hi : it rh mu = some (.ok (ds.map f), mu1)) (h0 : I rh)
    (hs : ∀ a ∈ ds, ∀ rh, I rh → ∃ r', b (rh.set j (some (f a))) mu1 = some (.nx r', mu1) ∧ I r')
    (P : Option (Out × Mu) → Prop) (hr : ∀ r', I r' → P (rest r' mu1)) : P (thenS (sFor it (tNm j) b rh mu) rest) :=
  seq_fold (fun (_ : Unit) _ => ()) (fun _ rh mu => mu = mu1 ∧ I rh) () hi ⟨rfl, h0⟩ (fun a ha _ rh mu ⟨e, h⟩ => by
    subst e
    obtain ⟨r', h1, h2⟩ := hs a ha rh h
    exact ⟨r', _, h1, rfl, h2⟩) P fun r' mu' ⟨e, h⟩ => by
    subst e
    exact hr r' h
theorem loop_foldP {α σ : Type} {f : α → D} {j : Nat} {b : MS} (F : σ → α → σ) (I : σ → Rho → Mu → Prop) (s0 : σ) (ds : List α)
    (hs : ∀ pre a post, ds = pre ++ a :: post → ∀ rh mu, I (pre.foldl F s0) rh mu → ∃ r' mu', b (rh.set j (some (f a))) mu = some (.nx r', mu') ∧ I (F (pre.foldl F s0) a) r' mu') :
    ∀ (pre post : List α), ds = pre ++ post → ∀ {rh : Rho} {mu : Mu}, I (pre.foldl F s0) rh mu → ∃ r' mu', loopS (tNm j) b (post.map f) rh mu = some (.nx r', mu') ∧ I (ds.foldl F s0) r' mu'
  | pre, [], e, rh, mu, h => ⟨rh, mu, rfl, by rw [e, List.append_nil]; exact h⟩
  | pre, a :: post, e, rh, mu, h => by
    obtain ⟨r', mu', h1, h2⟩ := hs pre a post e rh mu h
    have un : loopS (tNm j) b ((a :: post).map f) rh mu = (match b (rh.set j (some (f a))) mu with
      | some (.nx r, mu1) => loopS (tNm j) b (post.map f) r mu1
      | some (.ct r, mu1) => loopS (tNm j) b (post.map f) r mu1
      | some (.bk r, mu1) => some (.nx r, mu1)
      | o => o) := rfl
    rw [un, h1]
    exact loop_foldP F I s0 ds hs (pre ++ [a]) post (by rw [e, List.append_assoc]; rfl) (by rw [List.foldl_append]; exact h2)
theorem seq_foldP {α σ : Type} {ds : List α} {f : α → D} {j : Nat} {b rest : MS} {it : M (List D)} {rh : Rho} {mu mu1 : Mu} (F : σ → α → σ) (I : σ → Rho → Mu → Prop) (s0 : σ) (hi : it rh mu = some (.ok (ds.map f), mu1)) (h0 : I s0 rh mu1)
    (hs : ∀ pre a post, ds = pre ++ a :: post → ∀ rh mu, I (pre.foldl F s0) rh mu → ∃ r' mu', b (rh.set j (some (f a))) mu = some (.nx r', mu') ∧ I (F (pre.foldl F s0) a) r' mu')
    (P : Option (Out × Mu) → Prop) (hr : ∀ r' mu', I (ds.foldl F s0) r' mu' → P (rest r' mu')) : P (thenS (sFor it (tNm j) b rh mu) rest) := by
  obtain ⟨r', mu', h1, h2⟩ := loop_foldP F I s0 ds hs [] ds rfl h0
  have e : sFor it (tNm j) b rh mu = loopS (tNm j) b (ds.map f) rh mu1 := by
    show bindS it (fun ds => loopS (tNm j) b ds) rh mu = _
    rw [bindS_ok hi]
  rw [e, h1]
  exact hr r' mu' h2
theorem loop_inv {α : Type} {f : α → D} {j : Nat} {b : MS} (I : Nat → Rho → Mu → Prop) : ∀ (ds : List α) (k : Nat),
    (∀ i a, ds[i]? = some a → ∀ rh mu, I (k + i) rh mu → ∃ r' mu', b (rh.set j (some (f a))) mu = some (.nx r', mu') ∧ I (k + i + 1) r' mu') → ∀ {rh : Rho} {mu : Mu}, I k rh mu → ∃ r' mu', loopS (tNm j) b (ds.map f) rh mu = some (.nx r', mu') ∧ I (k + ds.length) r' mu'
  | [], k, _, rh, mu, h => ⟨rh, mu, rfl, h⟩
  | a :: ds, k, hs, rh, mu, h => by
    obtain ⟨r', mu', h1, h2⟩ := hs 0 a rfl rh mu h
    have un : loopS (tNm j) b ((a :: ds).map f) rh mu = (match b (rh.set j (some (f a))) mu with
      | some (.nx r, mu1) => loopS (tNm j) b (ds.map f) r mu1
      | some (.ct r, mu1) => loopS (tNm j) b (ds.map f) r mu1
      | some (.bk r, mu1) => some (.nx r, mu1)
      | o => o) := rfl
    rw [un, h1]
    have := loop_inv I ds (k + 1) (fun i c hc rh mu h => by
      have := hs (i + 1) c hc rh mu (by rw [show k + (i + 1) = k + 1 + i by omega]; exact h)
      rw [show k + (i + 1) + 1 = k + 1 + i + 1 by omega] at this
      exact this) (rh := r') (mu := mu') h2
    rw [show k + (a :: ds).length = k + 1 + ds.length by simp; omega]
    exact this
theorem seq_inv {α : Type} {ds : List α} {f : α → D} {j : Nat} {b rest : MS} {it : M (List D)} {rh : Rho} {mu mu1 : Mu} (I : Nat → Rho → Mu → Prop) (hi : it rh mu = some (.ok (ds.map f), mu1)) (h0 : I 0 rh mu1)
    (hs : ∀ i a, ds[i]? = some a → ∀ rh mu, I i rh mu → ∃ r' mu', b (rh.set j (some (f a))) mu = some (.nx r', mu') ∧ I (i + 1) r' mu')
    (P : Option (Out × Mu) → Prop) (hr : ∀ r' mu', I ds.length r' mu' → P (rest r' mu')) : P (thenS (sFor it (tNm j) b rh mu) rest) := by
  obtain ⟨r', mu', h1, h2⟩ := loop_inv (j := j) (b := b) (f := f) I ds 0 (fun i a ha rh mu h => by
    rw [Nat.zero_add] at h ⊢
    exact hs i a ha rh mu h) h0
  rw [Nat.zero_add] at h2
  have e : sFor it (tNm j) b rh mu = loopS (tNm j) b (ds.map f) rh mu1 := by
    show bindS it (fun ds => loopS (tNm j) b ds) rh mu = _
    rw [bindS_ok hi]
  rw [e, h1]
  exact hr r' mu' h2
theorem lc_loopI {α β : Type} {f : α → D} {g : β → D} {j : Nat} {c : M Bool} {m : ME} {rh0 : Rho} (I : Nat → List β → Mu → Prop) : ∀ (ds : List α) (k : Nat) (bs : List β) (mu : Mu),
    (∀ i a, ds[i]? = some a → ∀ bs mu, I (k + i) bs mu → ∃ keep mu1, c (rh0.set j (some (f a))) mu = some (.ok keep, mu1) ∧ (keep = true → ∃ b mu', m (rh0.set j (some (f a))) mu1 = some (.ok (g b), mu') ∧ I (k + i + 1) (bs ++ [b]) mu') ∧ (keep = false → I (k + i + 1) bs mu1)) →
    I k bs mu → ∃ cs mu', lcLoop (tNm j) c m rh0 (ds.map f) mu = some (cs.map g, mu') ∧ I (k + ds.length) (bs ++ cs) mu' ∧ cs.length ≤ ds.length
  | [], k, bs, mu, _, h => ⟨[], mu, rfl, by rw [List.append_nil]; exact h, Nat.le_refl _⟩
  | a :: ds, k, bs, mu, hs, h => by
    obtain ⟨keep, mu1, h1, h2, h3⟩ := hs 0 a rfl bs mu h
    have un : lcLoop (tNm j) c m rh0 ((a :: ds).map f) mu = (match c (rh0.set j (some (f a))) mu with
      | some (.ok true, mu1) => (match m (rh0.set j (some (f a))) mu1 with
        | some (.ok y, mu2) => (lcLoop (tNm j) c m rh0 (ds.map f) mu2).map fun (p : List D × Mu) => (y :: p.1, p.2)
        | _ => none)
      | some (.ok false, mu1) => lcLoop (tNm j) c m rh0 (ds.map f) mu1
      | _ => none) := rfl
    have hs' : ∀ i d, ds[i]? = some d → ∀ bs mu, I (k + 1 + i) bs mu → ∃ keep mu1, c (rh0.set j (some (f d))) mu = some (.ok keep, mu1) ∧ (keep = true → ∃ b mu', m (rh0.set j (some (f d))) mu1 = some (.ok (g b), mu') ∧ I (k + 1 + i + 1) (bs ++ [b]) mu') ∧ (keep = false → I (k + 1 + i + 1) bs mu1) := fun i d hd bs mu h => by
      have := hs (i + 1) d hd bs mu (by rw [show k + (i + 1) = k + 1 + i by omega]; exact h)
      rw [show k + (i + 1) + 1 = k + 1 + i + 1 by omega] at this
      exact this
    have el : k + (a :: ds).length = k + 1 + ds.length := by simp; omega
    rw [un, h1, el]
    cases keep with
    | true =>
      obtain ⟨b, mu', h4, h5⟩ := h2 rfl
      obtain ⟨cs, mu2, q1, q2, q3⟩ := lc_loopI I ds (k + 1) (bs ++ [b]) mu' hs' h5
      refine ⟨b :: cs, mu2, ?_, by rw [List.append_assoc] at q2; exact q2, by simp; omega⟩
      simp only [h4, q1, Option.map_some, List.map_cons]
    | false =>
      obtain ⟨cs, mu2, q1, q2, q3⟩ := lc_loopI I ds (k + 1) bs mu1 hs' (h3 rfl)
      exact ⟨cs, mu2, q1, q2, by simp; omega⟩
/-- a comprehension whose parts change cells -/
theorem lc_inv {α β : Type} {ds : List α} {f : α → D} {g : β → D} {j : Nat} {c : M Bool} {m : ME} {rh : Rho} {mu mu0 : Mu} {it : M (List D)} (I : Nat → List β → Mu → Prop) (hi : it rh mu0 = some (.ok (ds.map f), mu)) (hl : ds.length ≤ 100000) (h0 : I 0 [] mu)
    (hs : ∀ i a, ds[i]? = some a → ∀ bs mu, I i bs mu → ∃ keep mu1, c ((wipeR rh [j]).set j (some (f a))) mu = some (.ok keep, mu1) ∧ (keep = true → ∃ b mu', m ((wipeR rh [j]).set j (some (f a))) mu1 = some (.ok (g b), mu') ∧ I (i + 1) (bs ++ [b]) mu') ∧ (keep = false → I (i + 1) bs mu1)) :
    ∃ cs mu', mLc [j] it (tNm j) c m rh mu0 = some (.ok (.lst (cs.map g)), mu') ∧ I ds.length cs mu' ∧ cs.length ≤ ds.length := by
  obtain ⟨cs, mu', h1, h2, h3⟩ := lc_loopI (j := j) (c := c) (m := m) (rh0 := wipeR rh [j]) (f := f) (g := g) I ds 0 [] mu (fun i a ha bs mu h => by
    rw [Nat.zero_add] at h ⊢
    exact hs i a ha bs mu h) h0
  rw [Nat.zero_add, List.nil_append] at h2
  refine ⟨cs, mu', ?_, h2, h3⟩
  unfold mLc
  rw [bindM_ok hi]
  simp only [h1]
  rw [few_ok (by rw [List.length_map]; omega)]
  rfl
theorem for_inv {α : Type} {ds : List α} {f : α → D} {j : Nat} {b : MS} {it : M (List D)} {rh : Rho} {mu mu1 : Mu} (I : Nat → Rho → Mu → Prop) (hi : it rh mu = some (.ok (ds.map f), mu1)) (h0 : I 0 rh mu1)
    (hs : ∀ i a, ds[i]? = some a → ∀ rh mu, I i rh mu → ∃ r' mu', b (rh.set j (some (f a))) mu = some (.nx r', mu') ∧ I (i + 1) r' mu') :
    ∃ r' mu', sFor it (tNm j) b rh mu = some (.nx r', mu') ∧ I ds.length r' mu' := by
  obtain ⟨r', mu', h1, h2⟩ := loop_inv (j := j) (b := b) (f := f) I ds 0 (fun i a ha rh mu h => by
    rw [Nat.zero_add] at h ⊢
    exact hs i a ha rh mu h) h0
  rw [Nat.zero_add] at h2
  refine ⟨r', mu', ?_, h2⟩
  show bindS it (fun ds => loopS (tNm j) b ds) rh mu = _
  rw [bindS_ok hi]
  exact h1
end
end Eb

namespace Eb
open PySem L2
structure Per where
  name : Str
  beg : Int
  goal : Int
  most : Int
  since : Int
  free : List Int
  led : List Int
structure Dor where
  one : Int
  oth : Int
  wide : Int
  ope : Int
  shu : Int
structure Hou where
  zones : Int
  hours : Int
  doors : List Dor
  people : List Per
def dPer (p : Per) : D := .tup [.str p.name, .int p.beg, .int p.goal, .int p.most, .int p.since, .tup (dI p.free), .tup (dI p.led)]
def dDor (d : Dor) : D := .tup [.int d.one, .int d.oth, .int d.wide, .int d.ope, .int d.shu]
def hF (h : Hou) : List D := [.int h.zones, .int h.hours, .lst (h.doors.map dDor), .lst (h.people.map dPer)]
def dH (h : Hou) : D := .tup (hF h)
def Per.isFree (p : Per) (z : Int) : Bool := decide (z = 0) || decide (z ∈ p.free)
def Per.may (p : Per) (z : Int) : Bool := p.isFree z || decide (z ∈ p.led)
theorem is_free_ev {o : D} {h : Hou} {mu : Mu} (ho : insOf mu o = some (0, hF h)) {n : Nat} {P : Per} (hp : h.people[n]? = some P) (z : Int) : m_is_free [o, .int n, .int z] mu = some (.ok (.bl (P.isFree z)), mu) := by
  simp [m_is_free, ho, hF, hp, dPer, Per.isFree]
theorem may_be_ev {o : D} {h : Hou} {mu : Mu} (ho : insOf mu o = some (0, hF h)) {n : Nat} {P : Per} (hp : h.people[n]? = some P) (z : Int) : m_may_be [o, .int n, .int z] mu = some (.ok (.bl (P.may z)), mu) := by
  simp [m_may_be, is_free_ev ho hp, ho, hF, hp, dPer, Per.may]

def Hou.P (h : Hou) (n : Nat) : Per := (h.people[n]?).getD ⟨"", 0, 0, 0, 0, [], []⟩
theorem Hou.P_of {h : Hou} {n : Nat} (l : n < h.people.length) : h.people[n]? = some (h.P n) := by
  unfold Hou.P
  rw [List.getElem?_eq_getElem l]
  rfl
/-- those of ps who aren't free in one of zs; what the others can lead -/
def Hou.bound (h : Hou) (ps : List Nat) (zs : List Int) : List Nat := ps.filter fun n => !(zs.filter fun z => !(h.P n).isFree z).isEmpty
def Hou.hands (h : Hou) (ps : List Nat) (zs : List Int) : Int := ((ps.filter fun n => !decide (n ∈ h.bound ps zs)).map fun n => (h.P n).most).sum
section
variable {o : D} {h : Hou} {mu : Mu} (ho : insOf mu o = some (0, hF h)) {ps : List Nat} {zs : List Int} (hp : ∀ n ∈ ps, n < h.people.length) (l1 : ps.length ≤ 100000) (l2 : zs.length ≤ 100000)
include ho hp l1 l2
theorem led_ones_ev : m_led_ones [o, .lst (dN ps), .lst (dI zs)] mu = some (.ok (.lst (dN (h.bound ps zs))), mu) := by
  simp [m_led_ones]
  rw [lc_ev (ds := ps) (f := fun n => .int (n : Int)) (fun n => !(zs.filter fun z => !(h.P n).isFree z).isEmpty) (fun n => .int (n : Int)) (by simp) l1 ?_ ?_]
  · rfl
  · intro n hn
    simp
    rw [lc_ev (ds := zs) (f := D.int) (fun z => !(h.P n).isFree z) D.int (by simp [wipeR]) l2 ?_ ?_]
    · simp
    · intro z hz
      simp [wipeR, is_free_ev ho (Hou.P_of (hp n hn))]
    · intro z hz _
      simp [wipeR]
  · intro n hn _
    simp [wipeR]
theorem can_lead_ev : m_can_lead_01 [o, .lst (dN ps), .lst (dI zs)] mu = some (.ok (.int (h.hands ps zs)), mu) := by
  simp [m_can_lead_01]
  rw [lc_ev (ds := ps) (f := fun n => .int (n : Int)) (fun n => !decide (n ∈ h.bound ps zs)) (fun n => .int (n : Int)) (by simp) l1 ?_ ?_]
  · simp
    rw [lc_ev (ds := ps.filter fun n => !decide (n ∈ h.bound ps zs)) (f := fun n => .int (n : Int)) (fun n => true) (fun n => .int (h.P n).most) (by simp) (Nat.le_trans (List.length_filter_le _ _) l1) ?_ ?_]
    · simp [Hou.hands]
    · intro n hn
      simp
    · intro n hn _
      simp [wipeR, ho, hF, Hou.P_of (hp n (List.mem_filter.mp hn).1), dPer]
  · intro n hn
    simp [wipeR, led_ones_ev ho hp l1 l2]
  · intro n hn _
    simp [wipeR]
end

abbrev S (st : List Int) (n : Nat) : Int := (st[n]?).getD 0
theorem S_of {st : List Int} {n : Nat} (l : n < st.length) : st[n]? = some (S st n) := by
  unfold S
  rw [List.getElem?_eq_getElem l]
  rfl
def dO : Option Nat → D
  | some n => .int (n : Int)
  | none => .non
def here (st : List Int) (z : Int) : List Nat := (List.range st.length).filter fun n => decide (S st n = z)
theorem here_lt {st : List Int} {z : Int} {n : Nat} (h : n ∈ here st z) : n < st.length := List.mem_range.mp (List.mem_filter.mp h).1
theorem here_len (st : List Int) (z : Int) : (here st z).length ≤ st.length := by
  have := List.length_filter_le (fun n => decide (S st n = z)) (List.range st.length)
  rw [List.length_range] at this
  exact this
def Hou.leftP (h : Hou) (st : List Int) (n : Nat) : Bool := !(h.P n).may (S st n) || (!(h.P n).isFree (S st n) && decide (h.hands (here st (S st n)) [S st n] < (h.bound (here st (S st n)) [S st n]).length))
def Hou.left (h : Hou) (st : List Int) : Option Nat := (List.range st.length).find? (h.leftP st)
theorem left_one_ev {o : D} {h : Hou} {mu : Mu} (ho : insOf mu o = some (0, hF h)) {st : List Int} (hs : st.length ≤ h.people.length) (hl : st.length ≤ 1000) : m_left_one_01 [o, .tup (dI st)] mu = some (.ok (dO (h.left st)), mu) := by
  have hlt : ∀ n ∈ List.range st.length, n < st.length := fun n hn => List.mem_range.mp hn
  simp [m_left_one_01, -v_for]
  rw [seq_find (ds := List.range st.length) (f := fun n => D.int (n : Int)) (fun rh => ∃ a b c, rh = [some o, some (.tup (dI st)), a, b, c, none]) (h.leftP st) (fun n => .int (n : Int)) (out := some (.rt .non, mu)) ?_ ⟨none, none, none, rfl⟩ ?_ ?_]
  · unfold Hou.left
    cases (List.range st.length).find? (h.leftP st) <;> rfl
  · have : st.length ≤ 1000000 := by omega
    simp [this]
  · rintro n hn _ ⟨a, b, c, rfl⟩
    have n1 := hlt n hn
    have n2 : n < h.people.length := by omega
    have hh : mLc [5] (mRng1 (mCons (mCB (pureF lenD) (mCons (mVar 1) (mNil))) (mNil))) (tNm 5) (mTest (mOp eqD (mOp ixD (mVar 1) (mVar 5)) (mVar 3))) (mVar 5) [some o, some (.tup (dI st)), some (.int n), some (.int (S st n)), c, none] mu = some (.ok (.lst (dN (here st (S st n)))), mu) := by
      rw [lc_ev (ds := List.range st.length) (f := fun n => D.int (n : Int)) (fun k => decide (S st k = S st n)) (fun n => .int (n : Int)) ?_ ?_ ?_ ?_]
      · rfl
      · have : st.length ≤ 1000000 := by omega
        simp [this]
      · simp; omega
      · intro k hk
        simp [wipeR, S_of (hlt k hk)]
      · intro k hk _
        simp [wipeR]
    have hp : ∀ k ∈ here st (S st n), k < h.people.length := fun k hk => Nat.lt_of_lt_of_le (here_lt hk) hs
    have hz : (here st (S st n)).length ≤ 100000 := Nat.le_trans (here_len _ _) (by omega)
    have e1 : m_led_ones [o, .lst (dN (here st (S st n))), .lst [.int (S st n)]] mu = _ := led_ones_ev ho hp hz (zs := [S st n]) (by simp)
    have e2 : m_can_lead_01 [o, .lst (dN (here st (S st n))), .lst [.int (S st n)]] mu = _ := can_lead_ev ho hp hz (zs := [S st n]) (by simp)
    simp [S_of n1, may_be_ev ho (Hou.P_of n2), is_free_ev ho (Hou.P_of n2), hh, e1, e2, Hou.leftP]
    by_cases b1 : (h.P n).may (S st n) = true <;> by_cases b2 : (h.P n).isFree (S st n) = true <;> by_cases b3 : h.hands (here st (S st n)) [S st n] < ((h.bound (here st (S st n)) [S st n]).length : Int) <;> simp [b1, b2, b3]
  · rintro _ _ ⟨a, b, c, rfl⟩
    simp
end Eb

/-! Eb: the bars. -/
namespace Eb
open PySem L2
/-! ### data without cells -/
theorem pure_of {f : Phi} {ds : List D} {mu mu' : Mu} {d : D} (hc : cfL ds = true) (h : f ds [] = some (.ok d, mu')) (hd : cf d = true) : mPure f ds mu = some (.ok d, mu) := by
  unfold mPure
  rw [if_pos hc, h]
  show (if cf d = true then _ else _) = _
  rw [if_pos hd]
theorem cfL_map {α : Type} {f : α → D} (h : ∀ a, cf (f a) = true) : ∀ l : List α, cfL (l.map f) = true
  | [] => rfl
  | a :: l => by
    show (cf (f a) && cfL (l.map f)) = true
    rw [h a, cfL_map h l]; rfl
@[simp] theorem cf_int {i : Int} : cf (.int i) = true := rfl
@[simp] theorem cf_str {i : Str} : cf (.str i) = true := rfl
@[simp] theorem cf_bl {i : Bool} : cf (.bl i) = true := rfl
@[simp] theorem cf_non : cf .non = true := rfl
@[simp] theorem cf_tup {ds : List D} : cf (.tup ds) = cfL ds := rfl
@[simp] theorem cf_lst {ds : List D} : cf (.lst ds) = cfL ds := rfl
@[simp] theorem cf_ins {c : Nat} {ds : List D} : cf (.ins c ds) = cfL ds := rfl
@[simp] theorem cf_scr {ns : List Int} : cf (.scr ns) = true := rfl
@[simp] theorem cfL_nil : cfL [] = true := rfl
@[simp] theorem cfL_cons {d : D} {ds : List D} : cfL (d :: ds) = (cf d && cfL ds) := rfl
@[simp] theorem cfL_I {l : List Int} : cfL (dI l) = true := cfL_map (fun _ => rfl) l
@[simp] theorem cfL_N {l : List Nat} : cfL (dN l) = true := cfL_map (fun _ => rfl) l
@[simp] theorem cf_P {p : Per} : cf (dPer p) = true := by simp [dPer]
@[simp] theorem cf_D {p : Dor} : cf (dDor p) = true := by simp [dDor]
@[simp] theorem cfL_hF {h : Hou} : cfL (hF h) = true := by
  simp [hF, cfL_map (f := dDor) (fun _ => cf_D), cfL_map (f := dPer) (fun _ => cf_P)]
@[simp] theorem cf_H {h : Hou} : cf (dH h) = true := cfL_hF
section
variable {mu : Mu} {h : Hou} {p : Per} {d : Dor}
@[simp] theorem H_0 : ixD mu (dH h) (.int 0) = some (.int h.zones) := by simp [dH, hF]
@[simp] theorem H_1 : ixD mu (dH h) (.int 1) = some (.int h.hours) := by simp [dH, hF]
@[simp] theorem H_2 : ixD mu (dH h) (.int 2) = some (.lst (h.doors.map dDor)) := by simp [dH, hF]
@[simp] theorem H_3 : ixD mu (dH h) (.int 3) = some (.lst (h.people.map dPer)) := by simp [dH, hF]
@[simp] theorem P_0 : ixD mu (dPer p) (.int 0) = some (.str p.name) := by simp [dPer]
@[simp] theorem P_1 : ixD mu (dPer p) (.int 1) = some (.int p.beg) := by simp [dPer]
@[simp] theorem P_2 : ixD mu (dPer p) (.int 2) = some (.int p.goal) := by simp [dPer]
@[simp] theorem P_3 : ixD mu (dPer p) (.int 3) = some (.int p.most) := by simp [dPer]
@[simp] theorem P_4 : ixD mu (dPer p) (.int 4) = some (.int p.since) := by simp [dPer]
@[simp] theorem P_5 : ixD mu (dPer p) (.int 5) = some (.tup (dI p.free)) := by simp [dPer]
@[simp] theorem P_6 : ixD mu (dPer p) (.int 6) = some (.tup (dI p.led)) := by simp [dPer]
end
/-! ### the law's own left -/
theorem lw_free_ev {h : Hou} {mu : Mu} {n : Nat} (hn : n < h.people.length) (z : Int) : m_lw_free [dH h, .int n, .int z] mu = some (.ok (.bl ((h.P n).isFree z)), mu) := by
  simp [m_lw_free, Hou.P_of hn, Per.isFree]
theorem lw_free_pv {h : Hou} {mu : Mu} {n : Nat} (hn : n < h.people.length) (z : Int) : mPure m_lw_free [dH h, .int n, .int z] mu = some (.ok (.bl ((h.P n).isFree z)), mu) :=
  pure_of (by simp) (lw_free_ev hn z) rfl
theorem bound1 {h : Hou} {ps : List Nat} {z : Int} : h.bound ps [z] = ps.filter fun n => !(h.P n).isFree z := by
  unfold Hou.bound
  apply List.filter_congr
  intro n _
  cases hf : (h.P n).isFree z <;> simp [hf]
theorem bound2 {h : Hou} {ps : List Nat} {z y : Int} : h.bound ps [z, y] = ps.filter fun n => !(h.P n).isFree z || !(h.P n).isFree y := by
  unfold Hou.bound
  apply List.filter_congr
  intro n _
  cases hf : (h.P n).isFree z <;> cases hg : (h.P n).isFree y <;> simp [hf, hg]
theorem may_eq {p : Per} {z : Int} : p.may z = (p.isFree z || decide (z ∈ p.led)) := rfl
theorem fil_len {α : Type} {l : List α} {p : α → Bool} {n : Nat} (h : l.length ≤ n) : (l.filter p).length ≤ n := Nat.le_trans (List.length_filter_le _ _) h
theorem lw_left_ev {h : Hou} {mu : Mu} {st : List Int} (hs : st.length ≤ h.people.length) (hl : st.length ≤ 1000) : m_lw_left [dH h, .tup (dI st)] mu = some (.ok (dO (h.left st)), mu) := by
  have hlt : ∀ n ∈ List.range st.length, n < st.length := fun n hn => List.mem_range.mp hn
  have hL : st.length ≤ 1000000 := by omega
  simp [m_lw_left, -v_for]
  rw [seq_find (ds := List.range st.length) (f := fun n => D.int (n : Int)) (fun rh => ∃ a b c e i, rh = [some (dH h), some (.tup (dI st)), a, b, c, e, i, none]) (h.leftP st) (fun n => .int (n : Int)) (out := some (.rt .non, mu)) ?_ ⟨none, none, none, none, none, rfl⟩ ?_ ?_]
  · unfold Hou.left
    cases (List.range st.length).find? (h.leftP st) <;> rfl
  · simp [hL]
  · rintro n hn _ ⟨a, b, c, e, i, rfl⟩
    have n1 := hlt n hn
    have n2 : n < h.people.length := by omega
    have hp : ∀ k ∈ here st (S st n), k < h.people.length := fun k hk => Nat.lt_of_lt_of_le (here_lt hk) hs
    have hz : (here st (S st n)).length ≤ 100000 := Nat.le_trans (here_len _ _) (by omega)
    have h1 : mLc [7] (mRng1 (mCons (mCB (pureF lenD) (mCons (mVar 1) (mNil))) (mNil))) (tNm 7) (mTest (mOp eqD (mOp ixD (mVar 1) (mVar 7)) (mVar 3))) (mVar 7) [some (dH h), some (.tup (dI st)), some (.int n), some (.int (S st n)), c, e, i, none] mu = some (.ok (.lst (dN (here st (S st n)))), mu) := by
      rw [lc_ev (ds := List.range st.length) (f := fun n => D.int (n : Int)) (fun k => decide (S st k = S st n)) (fun n => .int (n : Int)) ?_ ?_ ?_ ?_]
      · rfl
      · simp [hL]
      · simp; omega
      · intro k hk
        simp [wipeR, S_of (hlt k hk)]
      · intro k hk _
        simp [wipeR]
    have h2 : mLc [7] (mItems (mVar 4)) (tNm 7) (mNot (mTest (mCall (mPure m_lw_free) (mCons (mVar 0) (mCons (mVar 7) (mCons (mVar 3) (mNil))))))) (mVar 7) [some (dH h), some (.tup (dI st)), some (.int n), some (.int (S st n)), some (.lst (dN (here st (S st n)))), e, i, none] mu = some (.ok (.lst (dN (h.bound (here st (S st n)) [S st n]))), mu) := by
      rw [lc_ev (ds := here st (S st n)) (f := fun n => D.int (n : Int)) (fun k => !(h.P k).isFree (S st n)) (fun n => .int (n : Int)) ?_ hz ?_ ?_]
      · rw [bound1]
      · simp
      · intro k hk
        simp [wipeR, lw_free_pv (hp k hk)]
      · intro k hk _
        simp [wipeR]
    have h3 : mLc [7] (mItems (mVar 4)) (tNm 7) (mTest (mOp notinD (mVar 7) (mVar 5))) (mOp ixD (mOp ixD (mOp ixD (mVar 0) (mC (.int 3))) (mVar 7)) (mC (.int 3))) [some (dH h), some (.tup (dI st)), some (.int n), some (.int (S st n)), some (.lst (dN (here st (S st n)))), some (.lst (dN (h.bound (here st (S st n)) [S st n]))), i, none] mu = some (.ok (.lst ((((here st (S st n)).filter fun n_1 => !decide (n_1 ∈ h.bound (here st (S st n)) [S st n]))).map fun k => .int (h.P k).most)), mu) := by
      rw [lc_ev (ds := here st (S st n)) (f := fun n => D.int (n : Int)) (fun k => !decide (k ∈ h.bound (here st (S st n)) [S st n])) (fun k => .int (h.P k).most) ?_ hz ?_ ?_]
      · simp
      · intro k hk
        simp [wipeR]
      · intro k hk _
        simp [wipeR, Hou.P_of (hp k hk)]
    have hq : ((((here st (S st n)).filter fun n_1 => !decide (n_1 ∈ h.bound (here st (S st n)) [S st n]))).map fun k => (h.P k).most).sum = h.hands (here st (S st n)) [S st n] := rfl
    simp only [v_seq, v_asg, v_bindS, v_op, v_bindM, v_var, v_ifS, v_not, v_test, v_call]
    simp [S_of n1, lw_free_pv n2]
    by_cases b2 : (h.P n).isFree (S st n) = true
    · simp [b2, Hou.leftP, Per.may]
    · have b2' : (h.P n).isFree (S st n) = false := by simpa using b2
      simp [b2', h1, h2, h3, hq, Hou.P_of n2, Hou.leftP, Per.may]
      by_cases b1 : S st n ∈ (h.P n).led <;> by_cases b3 : h.hands (here st (S st n)) [S st n] < ((h.bound (here st (S st n)) [S st n]).length : Int) <;> simp [b1, b3]
  · rintro _ _ ⟨a, b, c, e, i, rfl⟩
    simp

/-! ### the bars -/
def mv (st : List Int) (g : List Nat) (z : Int) : List Int := (List.range st.length).map fun n => if n ∈ g then z else S st n
theorem mv_len {st : List Int} {g : List Nat} {z : Int} : (mv st g z).length = st.length := by simp [mv]
def dB : Option (Str × Nat) → D
  | some (w, n) => .tup [.str w, .int n]
  | none => .non
inductive Stp where
  | wait
  | go (num : Nat) (g : List Nat)
def dS : Stp → D
  | .wait => .tup [.str "wait"]
  | .go num g => .tup [.str "go", .int num, .tup (dN g)]
def Hou.Dr (h : Hou) (n : Nat) : Dor := (h.doors[n]?).getD ⟨0, 0, 0, 0, 0⟩
theorem Hou.Dr_of {h : Hou} {n : Nat} (l : n < h.doors.length) : h.doors[n]? = some (h.Dr n) := by
  unfold Hou.Dr
  rw [List.getElem?_eq_getElem l]
  rfl
def Hou.strange (h : Hou) (th : Int) (n : Nat) : Bool := !(h.P n).may th
def Hou.late (h : Hou) (hour : Int) (n : Nat) : Bool := decide (hour < (h.P n).since)
def Hou.away (h : Hou) (st : List Int) (num : Nat) (z : Int) (n : Nat) : Bool := !decide (S st n = z) || !(decide (z = (h.Dr num).one) || decide (z = (h.Dr num).oth))
def Hou.barG (h : Hou) (st : List Int) (g : List Nat) (he th : Int) : Option (Str × Nat) := match g.find? (h.strange th) with
  | some n => some ("may", n)
  | none => if h.hands g [he, th] < (h.bound g [he, th]).length then some ("led", (h.bound g [he, th]).headD 0) else match h.left (mv st g th) with
    | some n => some ("left", n)
    | none => none
def Hou.barH (h : Hou) (st : List Int) (g : List Nat) (he th : Int) : Option (Str × Nat) := if h.hands g [he, th] < (h.bound g [he, th]).length then some ("led", (h.bound g [he, th]).headD 0) else match h.left (mv st g th) with
    | some n => some ("left", n)
    | none => none
theorem Hou.barG_eq {h : Hou} {st : List Int} {g : List Nat} {he th : Int} : h.barG st g he th = match g.find? (h.strange th) with
  | some n => some ("may", n)
  | none => h.barH st g he th := rfl
def Hou.barW (h : Hou) (st : List Int) (num : Nat) (g : List Nat) (z : Int) : Option (Str × Nat) := if (h.Dr num).wide < g.length then some ("wide", num) else h.barG st g z ((h.Dr num).one + (h.Dr num).oth - z)
def Hou.barA (h : Hou) (st : List Int) (num : Nat) (g : List Nat) (z : Int) : Option (Str × Nat) := match g.find? (h.away st num z) with
  | some n => some ("place", n)
  | none => h.barW st num g z
def Hou.barGo (h : Hou) (hour : Int) (st : List Int) (num : Nat) (g : List Nat) (z : Int) : Option (Str × Nat) :=
  if (h.Dr num).ope ≤ hour ∧ hour < (h.Dr num).shu then match g.find? (h.late hour) with
    | some n => some ("late", n)
    | none => h.barA st num g z
  else some ("hour", num)
def Hou.bar (h : Hou) (hour : Int) (st : List Int) : Stp → Option (Str × Nat)
  | .wait => none
  | .go num g => h.barGo hour st num g (S st (g.headD 0))
/-- a group of the house's people -/
structure GrpOk (h : Hou) (g : List Nat) : Prop where
  lt : ∀ n ∈ g, n < h.people.length
  ne : g ≠ []
  up : g.Pairwise (· < ·)
def StpOk (h : Hou) : Stp → Prop
  | .wait => True
  | .go num g => num < h.doors.length ∧ GrpOk h g
/-- what is needed of a house for these to be reckoned -/
structure HouN (h : Hou) : Prop where
  most : ∀ n, 0 ≤ (h.P n).most
  few : h.people.length ≤ 4
theorem up_lo : ∀ (g : List Nat) (lo m : Nat), g.Pairwise (· < ·) → (∀ n ∈ g, lo ≤ n ∧ n < m) → g.length ≤ m - lo
  | [], _, _, _, _ => Nat.zero_le _
  | a :: g, lo, m, h1, h2 => by
    rw [List.pairwise_cons] at h1
    have h3 := h2 a List.mem_cons_self
    have := up_lo g (a + 1) m h1.2 fun n hn => ⟨h1.1 n hn, (h2 n (List.mem_cons_of_mem _ hn)).2⟩
    simp
    omega
theorem up_len {g : List Nat} {m : Nat} (h1 : g.Pairwise (· < ·)) (h2 : ∀ n ∈ g, n < m) : g.length ≤ m := by
  have := up_lo g 0 m h1 fun n hn => ⟨Nat.zero_le _, h2 n hn⟩
  omega
theorem first_ev {mu : Mu} {l : List Nat} : m_first_of [.lst (dN l)] mu = some (.ok (dO l.head?), mu) := by
  simp [m_first_of]
  cases l with
  | nil => simp [dO]
  | cons a l => simp [dO]
theorem moved_ev {mu : Mu} {st : List Int} {g : List Nat} {z : Int} (hl : st.length ≤ 1000) : m_moved [.tup (dI st), .lst (dN g), .int z] mu = some (.ok (.tup (dI (mv st g z))), mu) := by
  have hL : st.length ≤ 1000000 := by omega
  simp [m_moved]
  rw [lc_ev (ds := List.range st.length) (f := fun n => D.int (n : Int)) (fun k => true) (fun n => .int (if n ∈ g then z else S st n)) ?_ ?_ ?_ ?_]
  · simp [mv, Function.comp_def]
  · simp [hL]
  · simp; omega
  · intro k hk
    simp
  · intro k hk _
    simp [wipeR, S_of (List.mem_range.mp hk)]
    by_cases hg : k ∈ g <;> simp [hg]
theorem hands_nn {h : Hou} (N : HouN h) (g : List Nat) (zs : List Int) : 0 ≤ h.hands g zs := by
  unfold Hou.hands
  generalize List.filter _ g = l
  induction l with
  | nil => simp
  | cons a l ih =>
    have := N.most a
    simp
    omega
section
variable {o : D} {h : Hou} {mu : Mu} {st : List Int} {g : List Nat} (N : HouN h) (hs : st.length = h.people.length)
include N hs
theorem going_ev (ho : insOf mu o = some (0, hF h)) (G : GrpOk h g) (he th : Int) : m_bar_of_going_01 [o, .tup (dI st), .lst (dN g), .int he, .int th] mu = some (.ok (dB (h.barG st g he th)), mu) := by
  have f4 := N.few
  have gl : g.length ≤ 100000 := by have := up_len G.up G.lt; omega
  have e1 : m_led_ones [o, .lst (dN g), .lst [.int he, .int th]] mu = _ := led_ones_ev ho G.lt gl (zs := [he, th]) (by simp)
  have e2 : m_can_lead_01 [o, .lst (dN g), .lst [.int he, .int th]] mu = _ := can_lead_ev ho G.lt gl (zs := [he, th]) (by simp)
  have e3 : m_moved [.tup (dI st), .lst (dN g), .int th] mu = _ := moved_ev (by omega)
  have e4 := left_one_ev ho (st := mv st g th) (by rw [mv_len]; omega) (by rw [mv_len]; omega)
  have h1 : ∀ a b c d, mLc [8] (mItems (mVar 2)) (tNm 8) (mNot (mTest (mCall m_may_be (mCons (mVar 0) (mCons (mVar 8) (mCons (mVar 4) (mNil))))))) (mVar 8) [some o, some (.tup (dI st)), some (.lst (dN g)), some (.int he), some (.int th), a, b, c, d] mu = some (.ok (.lst (dN (g.filter (h.strange th)))), mu) := by
    intro a b c d
    rw [lc_ev (ds := g) (f := fun n => D.int (n : Int)) (h.strange th) (fun n => .int (n : Int)) ?_ gl ?_ ?_]
    · simp
    · intro k hk
      simp [wipeR, may_be_ev ho (Hou.P_of (G.lt k hk)), Hou.strange]
    · intro k hk _
      simp [wipeR]
  simp [m_bar_of_going_01, h1, first_ev, e1, e2, e3, e4, Hou.barG, List.head?_filter]
  cases hf : g.find? (h.strange th) with
  | some n => simp [dO, dB]
  | none =>
    simp [dO]
    by_cases b1 : h.hands g [he, th] < ((h.bound g [he, th]).length : Int)
    · have := hands_nn N g [he, th]
      cases hb : h.bound g [he, th] with
      | nil => rw [hb] at b1; simp at b1; omega
      | cons a l =>
        rw [hb] at b1
        simp at b1
        simp [b1, dB]
    · simp [b1]
      cases hl : h.left (mv st g th) <;> simp [dB]
end
end Eb

/-! Eb: what bars a step. -/
namespace Eb
open PySem L2
theorem same_len {ds es : List D} (h : ds.length ≠ es.length) : same (.tup ds) (.tup es) = false := by
  unfold same
  simp
  rintro rfl
  exact h rfl
theorem same_refl (d : D) : same d d = true := by simp [same]
theorem all_N (n : Nat) (l : List Nat) : (dN l).all (pl (n + 1)) = true := by rw [dN_I]; exact pl_I n _
theorem pl_step {num : Nat} {g : List Nat} : pl 12 (dS (.go num g)) = true := by
  show ([D.str "go", .int num, .tup (dN g)].all (pl 11)) = true
  simp only [List.all_cons, List.all_nil, Bool.and_true]
  have h1 : pl 11 (.str "go") = true := by decide +kernel
  have h3 : pl 11 (.tup (dN g)) = true := all_N 9 g
  rw [h1, h3]
  rfl
theorem pl_wait : pl 12 (.tup [.str "wait"]) = true := by decide +kernel
@[simp] theorem eq_wait {mu : Mu} : eqD mu (dS .wait) (.tup [.str "wait"]) = some (.bl true) := by
  show eqD mu (.tup [.str "wait"]) (.tup [.str "wait"]) = _
  rw [o_eqP pl_wait pl_wait, same_refl]
@[simp] theorem eq_go {mu : Mu} {num : Nat} {g : List Nat} : eqD mu (dS (.go num g)) (.tup [.str "wait"]) = some (.bl false) := by
  rw [o_eqP pl_step pl_wait, dS, same_len (by simp)]
section
variable {mu : Mu} {num : Nat} {g : List Nat}
@[simp] theorem S_0 : ixD mu (dS (.go num g)) (.int 0) = some (.str "go") := by simp [dS]
@[simp] theorem S_1 : ixD mu (dS (.go num g)) (.int 1) = some (.int num) := by simp [dS]
@[simp] theorem S_2 : ixD mu (dS (.go num g)) (.int 2) = some (.tup (dN g)) := by simp [dS]
@[simp] theorem S_len : lenD mu [dS (.go num g)] = some (.int 3) := rfl
@[simp] theorem W_len : lenD mu [dS .wait] = some (.int 1) := rfl
end
@[simp] theorem atI_m1 {α : Type} {l : List α} : atI l (-1) = l.getLast? := by
  unfold atI ixN
  rw [if_neg (by omega)]
  cases l with
  | nil => rfl
  | cons a l =>
    rw [if_pos (by simp; omega)]
    show (a :: l)[(-1 + ((a :: l).length : Int)).toNat]? = _
    rw [List.getLast?_eq_getElem?]
    congr 1
    simp
    omega
theorem sdd_up : ∀ {l : List Int}, l.Pairwise (· < ·) → sdd l = l := fun h => (sdd_unique h fun _ => Iff.rfl).symm
theorem up_cast {g : List Nat} (h : g.Pairwise (· < ·)) : (g.map fun (n : Nat) => (n : Int)).Pairwise (· < ·) := by
  rw [List.pairwise_map]
  exact h.imp fun h => by omega
@[simp] theorem o_setN {mu : Mu} {g : List Nat} (h : g.Pairwise (· < ·)) (hl : g.length ≤ 60) : setD mu [.tup (dN g)] = some (.set (g.map fun (n : Nat) => (n : Int))) := by
  show (match intsOf (dN g) with | some ns => if ns.length ≤ 1000 then some (D.set (sdd ns)) else none | none => none) = _
  rw [dN_I, intsOf_I]
  simp only [List.length_map]
  rw [if_pos (by omega), sdd_up (up_cast h)]
@[simp] theorem o_sortN {mu : Mu} {g : List Nat} (hl : g.length ≤ 60) : sortSetD mu [.set (g.map fun (n : Nat) => (n : Int))] = some (.lst (dN g)) := by
  show (if (g.map fun (n : Nat) => (n : Int)).length < 64 then some (D.lst ((g.map fun (n : Nat) => (n : Int)).map .int)) else none) = _
  rw [if_pos (by simp; omega), dN_I]
theorem pl_tN (g : List Nat) : pl 12 (.tup (dN g)) = true := all_N 10 g
section
variable {o : D} {h : Hou} {mu : Mu} {st : List Int} (N : HouN h) (hs : st.length = h.people.length)
include N
theorem need_ev (ho : insOf mu o = some (0, hF h)) {s : Stp} (ok : StpOk h s) : m_need_step [o, dS s] mu = some (.ok .non, mu) := by
  cases s with
  | wait => simp [m_need_step]
  | go num g =>
    obtain ⟨hn, G⟩ := ok
    have f4 := N.few
    have gl : g.length ≤ 60 := by have := up_len G.up G.lt; omega
    have e1 : eqD mu (.tup (dN g)) (.tup []) = some (.bl false) := by
      rw [o_eqP (pl_tN g) rfl, same_nilT]
      have := G.ne
      cases g <;> simp_all
    have e2 : neD mu (.tup (dN g)) (.tup (dN g)) = some (.bl false) := by
      rw [o_neP (pl_tN g) (pl_tN g), same_refl]; rfl
    have e3 : neD mu (.str "go") (.str "go") = some (.bl false) := by
      rw [o_neP (by decide +kernel) (by decide +kernel), same_refl]; rfl
    have e4 : g.getLast?.map (fun (n : Nat) => D.int (n : Int)) = some (.int ((g.getLast G.ne : Nat) : Int)) := by rw [List.getLast?_eq_some_getLast G.ne]; rfl
    have e5 := G.lt _ (List.getLast_mem G.ne)
    have e6 : (g[0]?).map (fun (n : Nat) => D.int (n : Int)) = some (.int ((g.head G.ne : Nat) : Int)) := by
      cases g with
      | nil => exact absurd rfl G.ne
      | cons a l => rfl
    have e7 : g.head G.ne ≤ g.getLast G.ne := by
      have hu := G.up
      cases g with
      | nil => exact absurd rfl G.ne
      | cons a l =>
        cases l with
        | nil => simp
        | cons b l =>
          rw [List.pairwise_cons] at hu
          have := hu.1 ((b :: l).getLast (by simp)) (List.getLast_mem _)
          simp only [List.head_cons, List.getLast_cons_cons]
          omega
    simp [m_need_step, ho, hF, hn, e3, e1, e2, G.up, gl, List.head?_eq_some_head G.ne, List.getLast?_eq_some_getLast G.ne, ← List.head?_eq_getElem?, e5, e7]
include hs
theorem bar_ev (ho : insOf mu o = some (0, hF h)) (hour : Int) {s : Stp} (ok : StpOk h s) : m_bar_of_01 [o, .int hour, .tup (dI st), dS s] mu = some (.ok (dB (h.bar hour st s)), mu) := by
  cases s with
  | wait => simp [m_bar_of_01, Hou.bar, dB]
  | go num g =>
    obtain ⟨hn, G⟩ := ok
    have f4 := N.few
    have gl : g.length ≤ 60 := by have := up_len G.up G.lt; omega
    have gs : ∀ n ∈ g, n < st.length := fun n hk => by rw [hs]; exact G.lt n hk
    have e0 : g[0]? = some (g.headD 0) := by
      cases g with
      | nil => exact absurd rfl G.ne
      | cons a l => rfl
    have e1 : st[g.headD 0]? = some (S st (g.headD 0)) := by
      cases g with
      | nil => exact absurd rfl G.ne
      | cons a l => exact S_of (gs a List.mem_cons_self)
    have nI : ∀ z : Int, notinD mu (.int z) (.tup [.int (h.Dr num).one, .int (h.Dr num).oth]) = some (.bl (!(decide (z = (h.Dr num).one) || decide (z = (h.Dr num).oth)))) := by
      intro z
      have := o_ninT (mu := mu) (a := z) (l := [(h.Dr num).one, (h.Dr num).oth])
      simpa using this
    have h1 : ∀ a b c d e i j k l m, mLc [14] (mItems (mVar 5)) (tNm 14) (mTest (mOp gtD (mOp ixD (mOp ixD (mFld 0 3 (mVar 0)) (mVar 14)) (mC (.int 4))) (mVar 1))) (mVar 14) [some o, some (.int hour), a, b, c, some (.lst (dN g)), d, e, i, j, k, l, m, none, none] mu = some (.ok (.lst (dN (g.filter (h.late hour)))), mu) := by
      intros
      rw [lc_ev (ds := g) (f := fun n => D.int (n : Int)) (h.late hour) (fun n => .int (n : Int)) ?_ (by omega) ?_ ?_]
      · simp
      · intro k hk
        simp [wipeR, ho, hF, Hou.P_of (G.lt k hk), Hou.late]
      · intro k hk _
        simp [wipeR]
    have h2 : ∀ a b c d e i j, mLc [14] (mItems (mVar 5)) (tNm 14) (mOr (mTest (mOp neD (mOp ixD (mVar 2) (mVar 14)) (mVar 12))) (mTest (mOp notinD (mVar 12) (mTup (mCons (mVar 6) (mCons (mVar 7) (mNil))))))) (mVar 14) [a, b, some (.tup (dI st)), c, d, some (.lst (dN g)), some (.int (h.Dr num).one), some (.int (h.Dr num).oth), e, i, j, some .non, some (.int (S st (g.headD 0))), none, none] mu = some (.ok (.lst (dN (g.filter (h.away st num (S st (g.headD 0)))))), mu) := by
      intros
      rw [lc_ev (ds := g) (f := fun n => D.int (n : Int)) (h.away st num (S st (g.headD 0))) (fun n => .int (n : Int)) ?_ (by omega) ?_ ?_]
      · simp
      · intro k hk
        simp [wipeR, S_of (gs k hk), nI, Hou.away, -List.headD_eq_head?_getD]
      · intro k hk _
        simp [wipeR]
    have e2 := going_ev N hs ho G (S st (g.headD 0)) ((h.Dr num).one + (h.Dr num).oth - S st (g.headD 0))
    show _ = some (Rs.ok (dB (h.barGo hour st num g (S st (g.headD 0)))), mu)
    generalize S st (g.headD 0) = z at *
    unfold Hou.barGo
    by_cases b1 : (h.Dr num).ope ≤ hour ∧ hour < (h.Dr num).shu
    · rw [if_pos b1]
      have b1' : ¬ (hour < (h.Dr num).ope ∨ (h.Dr num).shu ≤ hour) := by omega
      cases hf : g.find? (h.late hour) with
      | some n => simp [m_bar_of_01, ho, hF, Hou.Dr_of hn, dDor, h1, first_ev, List.head?_filter, b1', e0, e1, hf, dO, dB, -List.headD_eq_head?_getD]
      | none => 
        cases hg : g.find? (h.away st num z) with
        | some n => simp [m_bar_of_01, ho, hF, Hou.Dr_of hn, dDor, h1, h2, first_ev, List.head?_filter, b1', e0, e1, hf, hg, dO, dB, Hou.barA, -List.headD_eq_head?_getD]
        | none => 
          by_cases b3 : (h.Dr num).wide < g.length
          · simp [m_bar_of_01, ho, hF, Hou.Dr_of hn, dDor, h1, h2, first_ev, List.head?_filter, b1', b3, e0, e1, hf, hg, dO, dB, Hou.barA, Hou.barW, -List.headD_eq_head?_getD]
          · simp [m_bar_of_01, ho, hF, Hou.Dr_of hn, dDor, h1, h2, first_ev, List.head?_filter, b1', b3, e0, e1, e2, hf, hg, dO, Hou.barA, Hou.barW, -List.headD_eq_head?_getD]
    · rw [if_neg b1]
      have b2 : hour < (h.Dr num).ope ∨ (h.Dr num).shu ≤ hour := by omega
      simp [m_bar_of_01, ho, hF, Hou.Dr_of hn, dDor, b2, dB]
theorem barred_ev (ho : insOf mu o = some (0, hF h)) (hour : Int) {s : Stp} (ok : StpOk h s) : m_barred_01 [o, .int hour, .tup (dI st), dS s] mu = some (.ok (dB (h.bar hour st s)), mu) := by
  simp [m_barred_01, need_ev N ho ok, bar_ev N hs ho hour ok]
end
end Eb

/-! Eb: the law's own bars. -/
namespace Eb
open PySem L2
theorem fold_set {v : Int} : ∀ (g : List Nat) (st : List Int) (i : Nat), (∀ n ∈ g, n < st.length) → (g.foldl (fun c p => c.set p v) st)[i]? = if i ∈ g then some v else st[i]?
  | [], st, i, _ => by simp
  | a :: g, st, i, h => by
    rw [List.foldl_cons, fold_set g (st.set a v) i (fun n hn => by rw [List.length_set]; exact h n (List.mem_cons_of_mem _ hn))]
    by_cases h1 : i ∈ g
    · simp [h1]
    · rw [if_neg h1]
      by_cases h2 : i = a
      · subst h2
        rw [List.getElem?_set_self (h i List.mem_cons_self)]
        simp
      · rw [List.getElem?_set_ne (Ne.symm h2)]
        simp [h1, h2]
theorem fold_mv {v : Int} {g : List Nat} {st : List Int} (h : ∀ n ∈ g, n < st.length) : g.foldl (fun c p => c.set p v) st = mv st g v := by
  apply List.ext_getElem?
  intro i
  rw [fold_set g st i h]
  unfold mv
  rw [List.getElem?_map]
  by_cases hi : i < st.length
  · rw [List.getElem?_range hi]
    by_cases h1 : i ∈ g
    · simp [h1]
    · simp [h1, S, hi]
  · have : ¬ i ∈ g := fun z => hi (h i z)
    rw [if_neg this, List.getElem?_eq_none (by omega), List.getElem?_eq_none (by simp; omega)]
    rfl
section
variable {o : D} {h : Hou} {mu : Mu} {st : List Int} {num : Nat} {g : List Nat}
theorem behind_ev (hn : num < h.doors.length) (hg : ∀ n ∈ g, n < st.length) {z : Int} (hz : ∀ n ∈ g, S st n = z) : ∃ mu', m_lw_behind [dH h, .tup (dI st), dS (.go num g)] [] = some (.ok (.tup (dI (mv st g (if z = (h.Dr num).one then (h.Dr num).oth else (h.Dr num).one)))), mu') := by
  have ec : cutL [D.int (h.Dr num).one, .int (h.Dr num).oth, .int (h.Dr num).wide, .int (h.Dr num).ope, .int (h.Dr num).shu] none (some 2) = [D.int (h.Dr num).one, .int (h.Dr num).oth] := rfl
  simp [m_lw_behind, -v_for, Hou.Dr_of hn, dDor, ec]
  refine seq_fold (ds := g) (f := fun n => D.int (n : Int)) (fun (c : List Int) p => c.set p (if z = (h.Dr num).one then (h.Dr num).oth else (h.Dr num).one)) (fun c rh mu => c.length = st.length ∧ mu = [.lst (dI c)] ∧ ∃ i, rh = [some (dH h), some (.tup (dI st)), some (dS (.go num g)), some (.int (h.Dr num).one), some (.int (h.Dr num).oth), some (.cel 0), i]) st ?_ ⟨rfl, rfl, none, rfl⟩ ?_ (fun o => ∃ mu', fin o = some (.ok (.tup (dI (mv st g (if z = (h.Dr num).one then (h.Dr num).oth else (h.Dr num).one)))), mu')) ?_
  · simp
  · rintro n hn' c _ _ ⟨hc, rfl, i, rfl⟩
    have h1 := hg n hn'
    have h2 := hz n hn'
    have h3 : ixN c.length n = some n := by
      unfold ixN
      rw [if_pos (by omega), if_pos (by omega)]
      simp
    rw [hc] at h3
    by_cases hz0 : z = (h.Dr num).one
    · simp [S_of h1, h2, hz0, h3, hc]
      exact ⟨_, _, ⟨rfl, rfl⟩, rfl, _, rfl⟩
    · simp [S_of h1, h2, hz0, h3, hc]
      exact ⟨_, _, ⟨rfl, rfl⟩, rfl, _, rfl⟩
  · rintro r' mu' ⟨hc, rfl, i, rfl⟩
    rw [fold_mv hg] at *
    simp [frzD]
theorem behind_wait {mu : Mu} : m_lw_behind [dH h, .tup (dI st), dS .wait] mu = some (.ok (.tup (dI st)), mu) := by
  simp [m_lw_behind]
theorem behind_pv (hn : num < h.doors.length) (hg : ∀ n ∈ g, n < st.length) {z : Int} (hz : ∀ n ∈ g, S st n = z) : mPure m_lw_behind [dH h, .tup (dI st), dS (.go num g)] mu = some (.ok (.tup (dI (mv st g (if z = (h.Dr num).one then (h.Dr num).oth else (h.Dr num).one)))), mu) := by
  obtain ⟨mu', e⟩ := behind_ev hn hg hz
  exact pure_of (by simp [dS]) e (by simp)
@[simp] theorem cf_dS {s : Stp} : cf (dS s) = true := by cases s <;> simp [dS]
@[simp] theorem cf_dB {s : Option (Str × Nat)} : cf (dB s) = true := by rcases s with _ | ⟨w, n⟩ <;> simp [dB]
@[simp] theorem cf_dO {s : Option Nat} : cf (dO s) = true := by cases s <;> simp [dO]
theorem lw_left_pv (hs : st.length ≤ h.people.length) (hl : st.length ≤ 1000) : mPure m_lw_left [dH h, .tup (dI st)] mu = some (.ok (dO (h.left st)), mu) :=
  pure_of (by simp) (lw_left_ev hs hl) (by simp)
variable (N : HouN h) (hs : st.length = h.people.length)
include N hs
theorem lw_bar_ev (hour : Int) {s : Stp} (ok : StpOk h s) : m_lw_bar_01 [dH h, .int hour, .tup (dI st), dS s] mu = some (.ok (dB (h.bar hour st s)), mu) := by
  cases s with
  | wait => simp [m_lw_bar_01, Hou.bar, dB]
  | go num g =>
    obtain ⟨hn, G⟩ := ok
    have f4 := N.few
    have gl : g.length ≤ 60 := by have := up_len G.up G.lt; omega
    have gs : ∀ n ∈ g, n < st.length := fun n hk => by rw [hs]; exact G.lt n hk
    have e0 : g[0]? = some (g.headD 0) := by
      cases g with
      | nil => exact absurd rfl G.ne
      | cons a l => rfl
    have e1 : st[g.headD 0]? = some (S st (g.headD 0)) := by
      cases g with
      | nil => exact absurd rfl G.ne
      | cons a l => exact S_of (gs a List.mem_cons_self)
    have e2 : g.headD 0 ∈ g := by
      cases g with
      | nil => exact absurd rfl G.ne
      | cons a l => exact List.mem_cons_self
    have eS : ∀ u rh, tTp 3 u (dS (.go num g)) rh = u [.str "go", .int num, .tup (dN g)] rh := fun _ _ => rfl
    have eD : ∀ u rh, tTp 5 u (dDor (h.Dr num)) rh = u [.int (h.Dr num).one, .int (h.Dr num).oth, .int (h.Dr num).wide, .int (h.Dr num).ope, .int (h.Dr num).shu] rh := fun _ _ => rfl
    show _ = some (Rs.ok (dB (h.barGo hour st num g (S st (g.headD 0)))), mu)
    have e3 : (∀ n ∈ g, S st n = S st (g.headD 0)) → mPure m_lw_behind [dH h, .tup (dI st), dS (.go num g)] mu = _ := behind_pv (mu := mu) hn gs
    generalize S st (g.headD 0) = z at *
    unfold Hou.barGo
    by_cases b1 : (h.Dr num).ope ≤ hour ∧ hour < (h.Dr num).shu
    · rw [if_pos b1]
      have b1' : ¬ (hour < (h.Dr num).ope ∨ (h.Dr num).shu ≤ hour) := by omega
      let pre : Rho := [some (dH h), some (.int hour), some (.tup (dI st)), some (dS (.go num g)), some (.str "go"), some (.int num), some (.tup (dN g)), some (.int (h.Dr num).one), some (.int (h.Dr num).oth), some (.int (h.Dr num).wide), some (.int (h.Dr num).ope), some (.int (h.Dr num).shu)]
      simp [m_lw_bar_01, Hou.Dr_of hn, eS, eD, b1', -v_for]
      rw [seq_find (ds := g) (f := fun n => D.int (n : Int)) (fun rh => ∃ a, rh = pre ++ [a, none, none, none, none, none]) (h.late hour) (fun n => .tup [.str "late", .int n]) (out := some (.rt (dB (h.barA st num g z)), mu)) ?_ ⟨none, rfl⟩ ?_ ?_]
      · cases g.find? (h.late hour) <;> simp [dB]
      · simp
      · rintro n hn' _ ⟨a, rfl⟩
        simp [pre, Hou.P_of (G.lt n hn')]
        by_cases bb : hour < (h.P n).since <;> simp [bb, Hou.late]
      · rintro _ _ ⟨a, rfl⟩
        by_cases c1 : z = (h.Dr num).one ∨ z = (h.Dr num).oth
        · have c2 : ¬ (¬ z = (h.Dr num).one ∧ ¬ z = (h.Dr num).oth) := by omega
          simp [pre, e0, e1, c2, -v_for, -List.headD_eq_head?_getD, -not_and, -Decidable.not_not]
          rw [seq_find (ds := g) (f := fun n => D.int (n : Int)) (fun rh => ∃ a, rh = pre ++ [a, some (.int z), none, none, none, none]) (fun n => !decide (S st n = z)) (fun n => .tup [.str "place", .int n]) (out := some (.rt (dB (h.barW st num g z)), mu)) ?_ ?_ ?_ ?_]
          · have : h.away st num z = fun n => !decide (S st n = z) := by
              funext n
              unfold Hou.away
              rcases c1 with c1 | c1 <;> simp [c1]
            unfold Hou.barA
            rw [this]
            cases g.find? (fun n => !decide (S st n = z)) <;> simp [dB]
          · simp
          · exact ⟨a, rfl⟩
          · rintro n hn' _ ⟨a, rfl⟩
            simp [pre, S_of (gs n hn')]
            by_cases bb : S st n = z <;> simp [bb]
          · rintro fn _ ⟨a, rfl⟩
            have fn' : ∀ n ∈ g, S st n = z := fun n hn' => by simpa using List.find?_eq_none.mp fn n hn'
            by_cases c3 : (h.Dr num).wide < g.length
            · simp [pre, c3, Hou.barW, dB, -v_for]
            · have et : (if z = (h.Dr num).one then (h.Dr num).oth else (h.Dr num).one) = (h.Dr num).one + (h.Dr num).oth - z := by
                rcases c1 with c1 | c1
                · rw [if_pos c1]; omega
                · by_cases c4 : z = (h.Dr num).one
                  · rw [if_pos c4]; omega
                  · rw [if_neg c4]; omega
              have e4 := e3 fn'
              rw [et] at e4
              have ei : ∀ a b : Int, atI [D.int a, .int b] (if z = a then 1 else 0) = some (.int (if z = a then b else a)) := by
                intro a b
                by_cases c4 : z = a <;> simp [c4]
              unfold Hou.barW
              rw [if_neg c3]
              generalize (h.Dr num).one + (h.Dr num).oth - z = th at *
              simp [pre, c3, -v_for, ei, et]
              rw [seq_find (ds := g) (f := fun n => D.int (n : Int)) (fun rh => ∃ a, rh = pre ++ [a, some (.int z), some (.int th), none, none, none]) (h.strange th) (fun n => .tup [.str "may", .int n]) (out := some (.rt (dB (h.barH st g z th)), mu)) ?_ ?_ ?_ ?_]
              · rw [Hou.barG_eq]
                cases g.find? (h.strange th) <;> simp [dB]
              · simp
              · exact ⟨a, rfl⟩
              · rintro n hn' _ ⟨a, rfl⟩
                simp [pre, Hou.P_of (G.lt n hn'), lw_free_pv (G.lt n hn')]
                cases b4 : (h.P n).isFree th <;> by_cases b5 : th ∈ (h.P n).led <;> simp [b4, b5, Hou.strange, Per.may]
              · rintro _ _ ⟨a, rfl⟩
                have h1 : mLc [17] (mItems (mVar 6)) (tNm 17) (mOr (mNot (mTest (mCall (mPure m_lw_free) (mCons (mVar 0) (mCons (mVar 17) (mCons (mVar 13) (mNil))))))) (mNot (mTest (mCall (mPure m_lw_free) (mCons (mVar 0) (mCons (mVar 17) (mCons (mVar 14) (mNil)))))))) (mVar 17) (pre ++ [a, some (.int z), some (.int th), none, none, none]) mu = some (.ok (.lst (dN (h.bound g [z, th]))), mu) := by
                  rw [lc_ev (ds := g) (f := fun n => D.int (n : Int)) (fun n => !(h.P n).isFree z || !(h.P n).isFree th) (fun n => .int (n : Int)) ?_ (by omega) ?_ ?_]
                  · rw [bound2]
                  · simp [pre]
                  · intro k hk
                    simp [pre, wipeR, lw_free_pv (G.lt k hk)]
                  · intro k hk _
                    simp [pre, wipeR]
                have h2 : mLc [17] (mItems (mVar 6)) (tNm 17) (mTest (mOp notinD (mVar 17) (mVar 15))) (mOp ixD (mOp ixD (mOp ixD (mVar 0) (mC (.int 3))) (mVar 17)) (mC (.int 3))) (pre ++ [a, some (.int z), some (.int th), some (.lst (dN (h.bound g [z, th]))), none, none]) mu = some (.ok (.lst ((g.filter fun n => !decide (n ∈ h.bound g [z, th])).map fun k => .int (h.P k).most)), mu) := by
                  rw [lc_ev (ds := g) (f := fun n => D.int (n : Int)) (fun n => !decide (n ∈ h.bound g [z, th])) (fun k => .int (h.P k).most) ?_ (by omega) ?_ ?_]
                  · simp [pre]
                  · intro k hk
                    simp [pre, wipeR]
                  · intro k hk _
                    simp [pre, wipeR, Hou.P_of (G.lt k hk)]
                simp [pre] at h1 h2
                have h3 : ((g.filter fun n => !decide (n ∈ h.bound g [z, th])).map fun k => (h.P k).most).sum = h.hands g [z, th] := rfl
                have h4 := lw_left_pv (mu := mu) (h := h) (st := mv st g th) (by rw [mv_len]; omega) (by rw [mv_len]; omega)
                by_cases b6 : h.hands g [z, th] < ((h.bound g [z, th]).length : Int)
                · have b7 := hands_nn N g [z, th]
                  cases hb : h.bound g [z, th] with
                  | nil => rw [hb] at b6; simp at b6; omega
                  | cons i l =>
                    rw [hb] at b6 h1 h2 h3
                    simp at b6 h1 h2
                    simp at h3
                    simp [pre, h1, h2, h3, Hou.barH, b6, hb, dB]
                · simp [pre, h1, h2, h3, e4, h4, Hou.barH, b6]
                  cases h.left (mv st g th) <;> simp [dO, dB]
        · have c2 : ¬ z = (h.Dr num).one ∧ ¬ z = (h.Dr num).oth := by omega
          have : g.find? (h.away st num z) = some (g.headD 0) := by
            cases g with
            | nil => exact absurd rfl G.ne
            | cons a l => 
              apply List.find?_cons_of_pos
              simp [Hou.away, c2.1, c2.2]
          simp [pre, e0, e1, c2.1, c2.2, -v_for, -List.headD_eq_head?_getD, Hou.barA, this, dB]
    · rw [if_neg b1]
      have b2 : hour < (h.Dr num).ope ∨ (h.Dr num).shu ≤ hour := by omega
      simp [m_lw_bar_01, Hou.Dr_of hn, eS, eD, b2, dB, -v_for]
end
end Eb

/-! Eb: a house is made. -/
namespace Eb
open PySem L2
def letters : List Nat := (("abcdefghijklmnopqrstuvwxyz" : Str)).cps.toList
structure NameOk (x : Str) : Prop where
  lo : 1 ≤ x.length
  hi : x.length ≤ 8
  az : ∀ c ∈ x.cps.toList, c ∈ letters
structure DorOk (zones : Int) (d : Dor) : Prop where
  o0 : 0 ≤ d.one
  oo : d.one < d.oth
  oz : d.oth < zones
  w1 : 1 ≤ d.wide
  w4 : d.wide ≤ 4
  p0 : 0 ≤ d.ope
  ps : d.ope < d.shu
  s8 : d.shu ≤ 8
structure PerOk (zones : Int) (p : Per) : Prop where
  name : NameOk p.name
  b0 : 0 ≤ p.beg
  bz : p.beg < zones
  g0 : -1 ≤ p.goal
  gz : p.goal < zones
  m0 : 0 ≤ p.most
  m4 : p.most ≤ 4
  s0 : 0 ≤ p.since
  s8 : p.since ≤ 8
  zs : ∀ z ∈ p.free ++ p.led, 1 ≤ z ∧ z < zones
  nd : (p.free ++ p.led).Nodup
  fu : p.free.Pairwise (· < ·)
  lu : p.led.Pairwise (· < ·)
structure HouOk (h : Hou) : Prop where
  z1 : 1 ≤ h.zones
  z4 : h.zones ≤ 4
  h0 : 0 ≤ h.hours
  h8 : h.hours ≤ 8
  d6 : h.doors.length ≤ 6
  dor : ∀ d ∈ h.doors, DorOk h.zones d
  p1 : 1 ≤ h.people.length
  p4 : h.people.length ≤ 4
  per : ∀ p ∈ h.people, PerOk h.zones p
  nms : (h.people.map (·.name)).Nodup
  left : h.left (h.people.map (·.beg)) = none
theorem Hou.P_mem {h : Hou} {n : Nat} (l : n < h.people.length) : h.P n ∈ h.people := List.mem_of_getElem? (Hou.P_of l)
theorem HouOk.N {h : Hou} (H : HouOk h) : HouN h := ⟨fun n => by
  by_cases l : n < h.people.length
  · exact (H.per _ (Hou.P_mem l)).m0
  · unfold Hou.P
    rw [List.getElem?_eq_none (by omega)]
    exact Int.le_refl _, H.p4⟩
@[simp] theorem must_ev {mu : Mu} {w n : D} : m_must [.bl true, w, n] mu = some (.ok .non, mu) := by
  simp [m_must]
/-- over a value -/
theorem lcK_l {own : List Nat} {ma : ME} {t : Tg} {c : M Bool} {m : ME} {rh : Rho} {mu mu1 : Mu} {ds : List D} (h : ma rh mu = some (.ok (.lst ds), mu1)) : mLcK own ma t c m rh mu = mLc own (mItems ma) t c m rh mu := by
  unfold mLcK mLc mItems
  simp only [v_bindM, h, tM_ok, v_lift, itemsOf, Option.map_some]
theorem is_door_ev {o : D} {h : Hou} {mu : Mu} (ho : insOf mu o = some (0, hF h)) {d : Dor} (k : DorOk h.zones d) : m_House_is_door [o, dDor d] mu = some (.ok (.bl true), mu) := by
  have eD : ∀ u rh, tTp 5 u (dDor d) rh = u [.int d.one, .int d.oth, .int d.wide, .int d.ope, .int d.shu] rh := fun _ _ => rfl
  simp [m_House_is_door, eD, ho, hF, k.o0, k.oo, k.oz, k.w1, k.w4, k.p0, k.ps, k.s8]
theorem is_name_ev {mu : Mu} {x : Str} (k : NameOk x) : m_is_name [.str x] mu = some (.ok (.bl true), mu) := by
  have h1 : mLc [1] (mItems (mVar 0)) (tNm 1) (mTest (mOp notinS (mVar 1) (mC (.str "abcdefghijklmnopqrstuvwxyz")))) (mVar 1) [some (.str x), none] mu = some (.ok (.lst []), mu) := by
    rw [lc_ev (ds := x.cps.toList) (f := fun c => .str ⟨#[c]⟩) (fun c => !decide (c ∈ letters)) (fun c => .str ⟨#[c]⟩) ?_ ?_ ?_ ?_]
    · have : x.cps.toList.filter (fun c => !decide (c ∈ letters)) = [] := by
        rw [List.filter_eq_nil_iff]
        intro c hc
        simp [k.az c hc]
      rw [this]
      rfl
    · simp [itemsOf]
    · have := k.hi
      show x.cps.toList.length ≤ 100000
      have : x.length = x.cps.toList.length := by simp [Str.length]
      omega
    · intro c hc
      simp [wipeR, notinS, letters]
    · intro c hc _
      simp [wipeR]
  have l1 := k.lo
  have l2 := k.hi
  have e1 : eqD mu (.lst []) (.lst []) = some (.bl true) := by rw [o_eqP rfl rfl, same_refl]
  have l3 : x.length ≤ 100000 := by omega
  have l4 : (1 : Int) ≤ x.length := by omega
  have l5 : (x.length : Int) ≤ 8 := by omega
  simp [m_is_name, h1, e1, l3, l4, l5]
theorem cut_take {α : Type} {l : List α} {n : Nat} : cutL l none (some (n : Int)) = l.take n := by
  unfold cutL
  rw [HT.sIx_nat, HT.sIx_none, List.drop_zero, Nat.sub_zero]
  by_cases h : n ≤ l.length
  · rw [Nat.min_eq_left h]
  · rw [Nat.min_eq_right (by omega), List.take_of_length_le (Nat.le_refl _), List.take_of_length_le (by omega)]
theorem inB_S {mu : Mu} {a : Str} {l : List Str} : inB mu (.str a) (.lst (l.map .str)) = some (decide (a ∈ l)) := by
  have h1 : vsOf (l.map .str) = some (l.map V.str) := by
    induction l with
    | nil => rfl
    | cons b l ih =>
      show (match vOf (.str b) with | some v => (vsOf (l.map .str)).map (v :: ·) | none => none) = _
      rw [ih]
      rfl
  show ((vsOf (l.map .str)).map fun vs => inV (.str a) vs) = _
  rw [h1, Option.map_some]
  congr 1
  unfold inV
  clear h1
  induction l with
  | nil => rfl
  | cons b l ih =>
    rw [List.map_cons, List.any_cons, ih]
    show ((b == a) || _) = _
    by_cases h : a = b
    · simp [h]
    · have : (b == a) = false := by simpa using fun z => h z.symm
      rw [this]
      simp [h]
@[simp] theorem o_inS {mu : Mu} {a : Str} {l : List Str} : inD mu (.str a) (.lst (l.map .str)) = some (.bl (decide (a ∈ l))) := by unfold inD; rw [inB_S]; rfl
theorem insI_up {x : Int} {l : List Int} (h : (x :: l).Pairwise (· ≤ ·)) : insI x l = x :: l := by
  cases l with
  | nil => rfl
  | cons a l =>
    have := (List.pairwise_cons.mp h).1 a List.mem_cons_self
    show (if x ≤ a then x :: a :: l else a :: insI x l) = _
    rw [if_pos this]
theorem srt_up {l : List Int} (h : l.Pairwise (· < ·)) : srt l = l := pw_unique (srt_perm l) (srt_pw l) (lt_le h)
@[simp] theorem o_sortT {mu : Mu} {l : List Int} (h : l.Pairwise (· < ·)) (hl : l.length < 64) : sortTupD mu [.tup (dI l)] = some (.lst (dI l)) := by
  show (match intsOf (dI l) with | some ns => if ns.length < 64 then some (D.lst ((srt ns).map .int)) else none | none => none) = _
  rw [intsOf_I]
  simp only
  rw [if_pos hl, srt_up h]
theorem o_setI {mu : Mu} {l : List Int} (hl : l.length ≤ 1000) : setD mu [.tup (dI l)] = some (.set (sdd l)) := by
  show (match intsOf (dI l) with | some ns => if ns.length ≤ 1000 then some (D.set (sdd ns)) else none | none => none) = _
  rw [intsOf_I]
  simp only
  rw [if_pos hl]
theorem sdd_len {l : List Int} (h : l.Nodup) : (sdd l).length = l.length := (nd_perm (lt_nd (sdd_pw l)) h fun k => sdd_mem).length_eq
theorem upI_lo : ∀ (g : List Int) (lo m : Int), g.Pairwise (· < ·) → (∀ n ∈ g, lo ≤ n ∧ n < m) → (g.length : Int) ≤ m - lo ∨ g = []
  | [], _, _, _, _ => .inr rfl
  | a :: g, lo, m, h1, h2 => by
    rw [List.pairwise_cons] at h1
    have h3 := h2 a List.mem_cons_self
    refine .inl ?_
    rcases upI_lo g (a + 1) m h1.2 fun n hn => ⟨h1.1 n hn, (h2 n (List.mem_cons_of_mem _ hn)).2⟩ with h | h
    · simp; omega
    · subst h; simp; omega
theorem PerOk.fl {z : Int} {p : Per} (k : PerOk z p) (z4 : z ≤ 4) : p.free.length ≤ 3 ∧ p.led.length ≤ 3 := by
  constructor
  · rcases upI_lo p.free 1 z k.fu fun n hn => k.zs n (List.mem_append_left _ hn) with q | q
    · omega
    · simp [q]
  · rcases upI_lo p.led 1 z k.lu fun n hn => k.zs n (List.mem_append_right _ hn) with q | q
    · omega
    · simp [q]
theorem pl_tI (l : List Int) : pl 12 (.tup (dI l)) = true := pl_I 10 l
theorem is_person_ev {o : D} {h : Hou} {mu : Mu} (ho : insOf mu o = some (0, hF h)) (H : HouOk h) {n : Nat} (hn : n < h.people.length) : m_House_is_person [o, .int n] mu = some (.ok (.bl true), mu) := by
  have k := H.per _ (Hou.P_mem hn)
  have f4 := H.p4
  have eP : ∀ u rh, tTp 7 u (dPer (h.P n)) rh = u [.str (h.P n).name, .int (h.P n).beg, .int (h.P n).goal, .int (h.P n).most, .int (h.P n).since, .tup (dI (h.P n).free), .tup (dI (h.P n).led)] rh := fun _ _ => rfl
  obtain ⟨fl, ll⟩ := k.fl H.z4
  have h1 : ∀ a b c d e i j k l m, mLc [10] (mItems (mSl (mFld 0 3 (mVar 0)) (mNoP) (mPart (mVar 1)))) (tNm 10) (mYes) (mOp ixD (mVar 10) (mC (.int 0))) [some o, some (.int n), a, b, c, d, e, i, j, k, l, m] mu = some (.ok (.lst (((h.people.take n).map (·.name)).map .str)), mu) := by
    intros
    rw [lc_ev (ds := h.people.take n) (f := dPer) (fun _ => true) (fun p => .str p.name) ?_ ?_ ?_ ?_]
    · rw [fil_true, List.map_map]
      rfl
    · simp [ho, hF, cut_take]
    · simp; omega
    · intro p hp
      simp
    · intro p hp _
      simp [wipeR]
  have h2 : ∀ a b c d e i j k l m, mLc [11] (mItems (mVar 9)) (tNm 11) (mNot (mTest (mCh leD ltD (mC (.int 1)) (mVar 11) (mFld 0 0 (mVar 0))))) (mVar 11) [some o, a, b, c, d, e, i, j, k, some (.tup (dI ((h.P n).free ++ (h.P n).led))), l, m] mu = some (.ok (.lst (dI [])), mu) := by
    intros
    rw [lc_ev (ds := (h.P n).free ++ (h.P n).led) (f := D.int) (fun z => !(decide (1 ≤ z) && decide (z < h.zones))) D.int ?_ ?_ ?_ ?_]
    · have : ((h.P n).free ++ (h.P n).led).filter (fun z => !(decide (1 ≤ z) && decide (z < h.zones))) = [] := by
        rw [List.filter_eq_nil_iff]
        intro z hz
        have := k.zs z hz
        simp [this.1, this.2]
      rw [this]
    · simp
    · simp; omega
    · intro z hz
      have := k.zs z hz
      simp [wipeR, ho, hF, this.1, this.2]
    · intro z hz _
      simp [wipeR]
  have h3 : (h.P n).name ∉ (h.people.take n).map (·.name) := by
    intro q
    rw [List.mem_map] at q
    obtain ⟨p, hp, e⟩ := q
    obtain ⟨i, hi, rfl⟩ := List.getElem_of_mem hp
    rw [List.length_take] at hi
    have hi2 : i < h.people.length := by omega
    have hin : i < n := by omega
    rw [List.getElem_take] at e
    have nd := H.nms
    have q := (List.pairwise_iff_getElem.mp nd) i n (by simpa using hi2) (by simpa using hn) hin
    rw [List.getElem_map, List.getElem_map] at q
    apply q
    rw [e]
    have := Hou.P_of hn
    rw [List.getElem?_eq_getElem hn] at this
    rw [← Option.some.inj this]
  have h4 : neD mu (.lst []) (.lst []) = some (.bl false) := by rw [o_neP rfl rfl, same_refl]; rfl
  have h5 := o_setI (mu := mu) (l := (h.P n).free ++ (h.P n).led) (by simp; omega)
  have h6 : ∀ l : List Int, eqD mu (.tup (dI l)) (.tup (dI l)) = some (.bl true) := fun l => by rw [o_eqP (pl_tI l) (pl_tI l), same_refl]
  have h7 := sdd_len k.nd
  have h8 : ((h.P n).free.length + (h.P n).led.length) ≤ 100000 := by omega
  generalize (h.people.take n).map (·.name) = ls at *
  simp at h2 h5 h7
  have q1 : (h.P n).free.length < 64 := by omega
  have q2 : (h.P n).led.length < 64 := by omega
  have b1 := k.b0
  have b2 := k.bz
  have b3 := k.g0
  have b4 := k.gz
  have b5 := k.m0
  have b6 := k.m4
  have b7 := k.s0
  have b8 := k.s8
  simp [m_House_is_person, ho, hF, Hou.P_of hn, eP, is_name_ev k.name, h1, h3, b1, b2, b3, b4, b5, b6, b7, b8, lim_ok, h8, h2, h4, h5, lenSetD, h7, k.fu, k.lu, h6, q1, q2]

theorem init_ev {h : Hou} (H : HouOk h) : m_House_init_01 [.cel 0, .int h.zones, .int h.hours, .lst (h.doors.map dDor), .lst (h.people.map dPer)] [.ins 0 []] = some (.ok .non, [.ins 0 (hF h)]) := by
  have a1 := H.z1
  have a2 := H.z4
  have a3 := H.h0
  have a4 := H.h8
  have a5 := H.d6
  have a6 := H.p1
  have a7 := H.p4
  have a8 : (h.doors.length : Int) ≤ 6 := by omega
  have a9 : (1 : Int) ≤ h.people.length := by omega
  have b1 : (h.people.length : Int) ≤ 4 := by omega
  have b2 : h.doors.length ≤ 1000000 := by omega
  have b3 : h.people.length ≤ 1000000 := by omega
  have ho : insOf [.ins 0 (hF h)] (.cel 0) = some (0, hF h) := rfl
  have hm : [Cell.ins 0 [D.int h.zones, .int h.hours, .lst (h.doors.map dDor), .lst (h.people.map dPer)]] = [.ins 0 (hF h)] := rfl
  simp [m_House_init_01, a1, a2, a3, a4, a8, a9, b1, -v_for, hm]
  have ho : insOf [.ins 0 (hF h)] (.cel 0) = some (0, hF h) := rfl
  refine seq_nx (mu1 := [.ins 0 (hF h)]) (ds := List.range h.doors.length) (f := fun n => D.int (n : Int)) (fun rh => ∃ a, rh = [some (.cel 0), some (.int h.zones), some (.int h.hours), some (.lst (h.doors.map dDor)), some (.lst (h.people.map dPer)), a, none, none]) ?_ ⟨none, rfl⟩ ?_ (fun o => fin o = some (Rs.ok D.non, [.ins 0 (hF h)])) ?_
  · simp [b2]
  · rintro n hn _ ⟨a, rfl⟩
    have hn := List.mem_range.mp hn
    have hd := is_door_ev ho (H.dor _ (List.mem_of_getElem? (Hou.Dr_of hn)))
    simp [Hou.Dr_of hn, hd]
  · rintro _ ⟨a, rfl⟩
    simp only [v_seq]
    refine seq_nx (mu1 := [.ins 0 (hF h)]) (ds := List.range h.people.length) (f := fun n => D.int (n : Int)) (fun rh => ∃ a, rh = [some (.cel 0), some (.int h.zones), some (.int h.hours), some (.lst (h.doors.map dDor)), some (.lst (h.people.map dPer)), a, none, none]) ?_ ⟨a, rfl⟩ ?_ (fun o => fin o = some (Rs.ok D.non, [.ins 0 (hF h)])) ?_
    · simp [b3]
    · rintro n hn _ ⟨a, rfl⟩
      have hn := List.mem_range.mp hn
      have hd := is_person_ev ho H hn
      simp [hd]
    · rintro _ ⟨a, rfl⟩
      have h1 : mLcK [7] (mVar 4) (tNm 7) (mYes) (mOp ixD (mVar 7) (mC (.int 1))) [some (.cel 0), some (.int h.zones), some (.int h.hours), some (.lst (h.doors.map dDor)), some (.lst (h.people.map dPer)), a, none, none] [.ins 0 (hF h)] = some (.ok (.lst (dI (h.people.map (·.beg)))), [.ins 0 (hF h)]) := by
        rw [lcK_l (ds := h.people.map dPer) rfl, lc_ev (ds := h.people) (f := dPer) (fun _ => true) (fun p => .int p.beg) ?_ ?_ ?_ ?_]
        · rw [fil_true, dI, List.map_map]
          rfl
        · simp
        · omega
        · intro p hp
          simp
        · intro p hp _
          simp [wipeR]
      have h2 := left_one_ev ho (st := h.people.map (·.beg)) (by simp) (by simp; omega)
      rw [H.left] at h2
      simp only [v_seq, v_asg, v_bindS, v_call, v_cons, v_cb, v_bindM, v_var, h1]
      generalize h.people.map (·.beg) = bs at *
      simp [h1, h2, dO]
theorem made_ev {h : Hou} (H : HouOk h) {mu : Mu} : mPure m_lw_made_01 [dH h] mu = some (.ok (.ins 0 (hF h)), mu) := by
  refine pure_of (mu' := [.dead]) (by simp) ?_ (by simp)
  have e := init_ev H
  simp [m_lw_made_01, mMake, e]
theorem doors_ev {mu : Mu} {h : Hou} : m_House_doors [.ins 0 (hF h)] mu = some (.ok (.lst (h.doors.map dDor)), mu) := by
  simp [m_House_doors, hF]
theorem people_ev {mu : Mu} {h : Hou} : m_House_people [.ins 0 (hF h)] mu = some (.ok (.lst (h.people.map dPer)), mu) := by
  simp [m_House_people, hF]
end Eb

/-! Eb: what is drawn. -/
namespace Eb
open PySem L2
structure Row where
  c : Nat
  a : Int
def rowD (ns : List Int) (r : Row) : Cell := .lst [.scr ns, .int (r.c : Int), .int r.a]
def nxt (ns : List Int) (r : Row) : Row := ⟨r.c + 1, match ns[r.c]? with
  | some x => (r.a * 48271 + x + 11) % 2147483647
  | none => (r.a * 48271 + 11) % 2147483647⟩
def raw (ns : List Int) (r : Row) : Int := match ns[r.c]? with
  | some x => x
  | none => (r.a * 48271 + 11) % 2147483647 / 7
theorem taken_ev {ns : List Int} {r : Row} {rest : Mu} {m : Int} (hm : 0 < m) : m_lw_taken [.cel 0, .int m] (rowD ns r :: rest) = some (.ok (.int (raw ns r % m)), rowD ns (nxt ns r) :: rest) := by
  have q : ixN 3 1 = some 1 := rfl
  have q2 : ixN 3 2 = some 2 := rfl
  have s1 : smallI 48271 = true := by decide
  by_cases h : r.c < ns.length
  · have h1 : ¬ ((ns.length : Int) < r.c + 1) := by omega
    simp [m_lw_taken, rowD, q, q2, h1, s1, raw, nxt, hm, h]
  · have h1 : (ns.length : Int) < r.c + 1 := by omega
    have h2 : ns[r.c]? = none := List.getElem?_eq_none (by omega)
    simp [m_lw_taken, rowD, q, q2, h1, s1, raw, nxt, hm, h2]

theorem atI_mod {α : Type} {l : List α} {n x : Int} {d : α} (hl : (l.length : Int) = n) (h0 : 0 < n) : atI l (x % n) = some (l.getD (x % n).toNat d) := by
  have h1 := Int.emod_nonneg x (show n ≠ 0 by omega)
  have h2 := Int.emod_lt_of_pos x h0
  have e : x % n = (((x % n).toNat : Nat) : Int) := by omega
  rw [e, atI_nat]
  simp only [Int.toNat_natCast]
  rw [List.getD_eq_getElem?_getD, List.getElem?_eq_getElem (by omega)]
  rfl
theorem getD_mem {α : Type} {l : List α} {i : Nat} {d : α} (h : i < l.length) : l.getD i d ∈ l := by
  rw [List.getD_eq_getElem?_getD, List.getElem?_eq_getElem h]
  exact List.getElem_mem h
theorem r_11 : rng1 [.int 11] = some ((List.range 11).map fun (n : Nat) => .int (n : Int)) := r_1 (n := 11) (by omega)
theorem r_4 : rng1 [.int 4] = some ((List.range 4).map fun (n : Nat) => .int (n : Int)) := r_1 (n := 4) (by omega)
theorem letters_len : letters.length = 26 := by decide +kernel
theorem cut_S {z : Str} {i : Nat} {c : Nat} : cutS z none (some (i : Int)) ++ (⟨#[c]⟩ : Str) = ⟨(z.cps.toList.take i ++ [c]).toArray⟩ := by
  show (⟨(cutS z none (some (i : Int))).cps ++ #[c]⟩ : Str) = _
  congr 1
  have : z.length = z.cps.toList.length := by simp [Str.length]
  unfold cutS
  rw [HT.sIx_nat, HT.sIx_none, List.drop_zero, Nat.sub_zero, this]
  by_cases h : i ≤ z.cps.toList.length
  · rw [Nat.min_eq_left h]
    simp
  · rw [Nat.min_eq_right (by omega), List.take_of_length_le (Nat.le_refl _), List.take_of_length_le (by omega)]
    apply Array.ext'
    simp
theorem slD_S {mu : Mu} {z : Str} {lo hi : Option Int} (h : z.length ≤ 100000) : slD mu (.str z) lo hi = some (.str (cutS z lo hi)) := if_pos h
theorem smod (s : Int) (k : Nat) : 0 ≤ (s + 3 * (k : Int)) % 8 ∧ (s + 3 * (k : Int)) % 8 < 8 := ⟨Int.emod_nonneg _ (by omega), Int.emod_lt_of_pos _ (by omega)⟩
theorem names_ev (ns : List Int) (r : Row) : ∃ nms : List Str, nms.length = 4 ∧ (∀ x ∈ nms, NameOk x) ∧ nms.Nodup ∧ ∀ rest, m_lw_names [.cel 0] (rowD ns r :: rest) = some (.ok (.lst (nms.map .str)), rowD ns (nxt ns (nxt ns r)) :: rest) := by
  obtain ⟨t, ht⟩ : ∃ t, raw ns r % 26 = t := ⟨_, rfl⟩
  obtain ⟨s, hs⟩ : ∃ t, raw ns (nxt ns r) % 8 = t := ⟨_, rfl⟩
  let sg : Nat → Nat := fun k => letters.getD ((t + 5 * (k : Int)) % 26).toNat 0
  have hsg : ∀ k, sg k ∈ letters := fun k => getD_mem (by
    have h1 := Int.emod_nonneg (t + 5 * (k : Int)) (show (26 : Int) ≠ 0 by omega)
    have h2 := Int.emod_lt_of_pos (t + 5 * (k : Int)) (show (0 : Int) < 26 by omega)
    rw [letters_len]
    omega)
  let bs : List Nat := [sg 4, sg 5, sg 6, sg 7, sg 8, sg 9, sg 10]
  let im : Nat → Nat := fun k => ((s + 3 * (k : Int)) % 8).toNat
  let nm : Nat → Str := fun k => ⟨(bs.take (im k) ++ [sg k]).toArray⟩
  have him : ∀ k, im k < 8 := fun k => by
    have := smod s k
    show ((s + 3 * (k : Int)) % 8).toNat < 8
    omega
  have len : ∀ k, (nm k).length = im k + 1 := fun k => by
    have := him k
    show (bs.take (im k) ++ [sg k]).toArray.size = _
    simp [bs]
    omega
  refine ⟨(List.range 4).map nm, by simp, ?_, ?_, ?_⟩
  · intro x hx
    obtain ⟨k, _, rfl⟩ := List.mem_map.mp hx
    have := him k
    refine ⟨by rw [len]; omega, by rw [len]; omega, ?_⟩
    intro c hc
    rw [show (nm k).cps.toList = bs.take (im k) ++ [sg k] from rfl] at hc
    rw [List.mem_append] at hc
    rcases hc with hc | hc
    · have := List.mem_of_mem_take hc
      simp only [bs, List.mem_cons, List.not_mem_nil, or_false] at this
      rcases this with h | h | h | h | h | h | h <;> (rw [h]; exact hsg _)
    · rw [List.mem_singleton] at hc
      rw [hc]
      exact hsg _
  · have ne : ∀ i j : Nat, im i ≠ im j → nm i ≠ nm j := fun i j h e => h (by
      have h1 := len i
      have h2 := len j
      rw [e] at h1
      omega)
    have h0 := smod s 0
    have h1 := smod s 1
    have h2 := smod s 2
    have h3 := smod s 3
    have q : ∀ i j : Nat, i < 4 → j < 4 → i ≠ j → im i ≠ im j := by
      intro i j hi hj hij e
      have e : ((s + 3 * (i : Int)) % 8).toNat = ((s + 3 * (j : Int)) % 8).toNat := e
      have := smod s i
      have := smod s j
      omega
    show (List.map nm (List.range 4)).Pairwise (· ≠ ·)
    rw [List.pairwise_map]
    have : (List.range 4).Pairwise (· ≠ ·) := List.nodup_range
    refine (List.Pairwise.and_mem.mp this).imp ?_
    rintro i j ⟨hi, hj, hij⟩
    exact ne _ _ (q i j (List.mem_range.mp hi) (List.mem_range.mp hj) hij)
  · intro rest
    have h1 : ∀ a, mLc [5] (mRng1 (mCons (mC (.int 11)) (mNil))) (tNm 5) (mYes) (mOp ixD (mC (.str "abcdefghijklmnopqrstuvwxyz")) (mOp modD (mOp addD (mVar 1) (mOp mulD (mC (.int 5)) (mVar 5))) (mC (.int 26)))) [some (.cel 0), some (.int t), some (.int s), a, none, none] (rowD ns (nxt ns (nxt ns r)) :: rest) = some (.ok (.lst ((List.range 11).map fun k => .str ⟨#[sg k]⟩)), rowD ns (nxt ns (nxt ns r)) :: rest) := by
      intro a
      rw [lc_ev (ds := List.range 11) (f := fun n => D.int (n : Int)) (fun _ => true) (fun k => .str ⟨#[sg k]⟩) ?_ ?_ ?_ ?_]
      · rw [fil_true]
      · simp [r_11]
      · simp
      · intro k hk
        simp
      · intro k hk _
        have e1 : ("abcdefghijklmnopqrstuvwxyz" : Str).length ≤ 100000 := by decide +kernel
        have e2 := atI_mod (l := letters) (n := 26) (x := t + 5 * (k : Int)) (d := 0) (by rw [letters_len]; rfl) (by omega)
        have s5 : smallI 5 = true := by decide
        unfold letters at e2
        simp [wipeR, s5, e1, e2, sg, letters]
    have h2 : ∀ (mu : Mu) (a b c : Option D), mLc [5] (mRng1 (mCons (mC (.int 4)) (mNil))) (tNm 5) (mYes) (mOp addD (mSl (mVar 4) (mNoP) (mPart (mOp modD (mOp addD (mVar 2) (mOp mulD (mC (.int 3)) (mVar 5))) (mC (.int 8))))) (mOp ixD (mVar 3) (mVar 5))) [a, b, some (.int s), some (.lst ((List.range 11).map fun k => .str ⟨#[sg k]⟩)), some (.str ⟨#[sg 4, sg 5, sg 6, sg 7, sg 8, sg 9, sg 10]⟩), c] mu = some (.ok (.lst ((List.range 4).map fun k => .str (nm k))), mu) := by
      intro mu a b c
      rw [lc_ev (ds := List.range 4) (f := fun n => D.int (n : Int)) (fun _ => true) (fun k => .str (nm k)) ?_ ?_ ?_ ?_]
      · rw [fil_true]
      · simp [r_4]
      · simp
      · intro k hk
        simp
      · intro k hk _
        have hk := List.mem_range.mp hk
        have s3 : smallI 3 = true := by decide
        have e3 : (s + 3 * (k : Int)) % 8 = ((im k : Nat) : Int) := by
          have := smod s k
          show _ = (((s + 3 * (k : Int)) % 8).toNat : Int)
          omega
        have e4 : ((List.range 11).map fun k => D.str ⟨#[sg k]⟩)[k]? = some (.str ⟨#[sg k]⟩) := by
          rw [List.getElem?_map, List.getElem?_range (by omega)]
          rfl
        have e5 : slD mu (.str ⟨#[sg 4, sg 5, sg 6, sg 7, sg 8, sg 9, sg 10]⟩) none (some ((im k : Nat) : Int)) = some (.str (cutS ⟨#[sg 4, sg 5, sg 6, sg 7, sg 8, sg 9, sg 10]⟩ none (some ((im k : Nat) : Int)))) := by
          exact slD_S (show 7 ≤ 100000 by omega)
        have e6 : (cutS ⟨#[sg 4, sg 5, sg 6, sg 7, sg 8, sg 9, sg 10]⟩ none (some ((im k : Nat) : Int))).length + (⟨#[sg k]⟩ : Str).length ≤ 100000 := by
          have e7 : (cutS ⟨#[sg 4, sg 5, sg 6, sg 7, sg 8, sg 9, sg 10]⟩ none (some ((im k : Nat) : Int)) ++ (⟨#[sg k]⟩ : Str)).length ≤ 100000 := by
            rw [cut_S]
            have := len k
            have := him k
            show (nm k).length ≤ 100000
            omega
          have e8 : ∀ x y : Str, (x ++ y).length = x.length + y.length := fun x y => by
            show (x.cps ++ y.cps).size = _
            rw [Array.size_append]
            rfl
          rw [e8] at e7
          exact e7
        simp [wipeR, s3, e3, e4, e5, lim_ok e6, cut_S, nm, bs]
    have h3 : ∀ mu : Mu, joinF (.str "") [.lst [.str ⟨#[sg 4]⟩, .str ⟨#[sg 5]⟩, .str ⟨#[sg 6]⟩, .str ⟨#[sg 7]⟩, .str ⟨#[sg 8]⟩, .str ⟨#[sg 9]⟩, .str ⟨#[sg 10]⟩]] mu = some (.str ⟨#[sg 4, sg 5, sg 6, sg 7, sg 8, sg 9, sg 10]⟩, mu) := by
      intro mu
      rfl
    have h4 : cutL ((List.range 11).map fun k => D.str ⟨#[sg k]⟩) (some 4) none = [.str ⟨#[sg 4]⟩, .str ⟨#[sg 5]⟩, .str ⟨#[sg 6]⟩, .str ⟨#[sg 7]⟩, .str ⟨#[sg 8]⟩, .str ⟨#[sg 9]⟩, .str ⟨#[sg 10]⟩] := by rfl
    simp [m_lw_names, taken_ev, ht, hs, h1, h4, h3, h2, isStr]

/-! ### a person -/
theorem atI_dI {l : List Int} {n x : Int} (hl : (l.length : Int) = n) (h0 : 0 < n) : atI (dI l) (x % n) = some (.int (l.getD (x % n).toNat 0)) := by
  rw [atI_mod (d := .int 0) (by simpa using hl) h0]
  congr 1
  rw [List.getD_eq_getElem?_getD, List.getD_eq_getElem?_getD, List.getElem?_map]
  cases l[(x % n).toNat]? <;> rfl
def pk (l : List Int) (n x : Int) : Int := l.getD (x % n).toNat 0
theorem pk_mem {l : List Int} {n x : Int} (hl : (l.length : Int) = n) (h0 : 0 < n) : pk l n x ∈ l := getD_mem (by
  have h1 := Int.emod_nonneg x (show n ≠ 0 by omega)
  have h2 := Int.emod_lt_of_pos x h0
  omega)
@[simp] theorem atI_p2 {a b x : Int} : atI [D.int a, .int b] (x % 2) = some (.int (pk [a, b] 2 x)) := atI_dI (l := [a, b]) rfl (by omega)
@[simp] theorem atI_p3 {a b c x : Int} : atI [D.int a, .int b, .int c] (x % 3) = some (.int (pk [a, b, c] 3 x)) := atI_dI (l := [a, b, c]) rfl (by omega)
@[simp] theorem atI_p4 {a b c d x : Int} : atI [D.int a, .int b, .int c, .int d] (x % 4) = some (.int (pk [a, b, c, d] 4 x)) := atI_dI (l := [a, b, c, d]) rfl (by omega)
@[simp] theorem atI_p5 {a b c d e x : Int} : atI [D.int a, .int b, .int c, .int d, .int e] (x % 5) = some (.int (pk [a, b, c, d, e] 5 x)) := atI_dI (l := [a, b, c, d, e]) rfl (by omega)
def zstep (ns : List Int) (s : List Int × List Int × Row) (z : Int) : List Int × List Int × Row :=
  if raw ns s.2.2 % 5 < 2 then (s.1 ++ [z], s.2.1, nxt ns s.2.2) else if raw ns s.2.2 % 5 < 4 then (s.1, s.2.1 ++ [z], nxt ns s.2.2) else (s.1, s.2.1, nxt ns s.2.2)
structure Zok (f l : List Int) : Prop where
  fu : f.Pairwise (· < ·)
  lu : l.Pairwise (· < ·)
  dj : ∀ z ∈ f, z ∉ l
theorem zfold {ns : List Int} (lo hi : Int) : ∀ (zs : List Int) (f l : List Int) (r : Row), zs.Pairwise (· < ·) → (∀ z ∈ zs, lo ≤ z ∧ z < hi) → Zok f l → (∀ z ∈ f ++ l, lo ≤ z ∧ z < hi ∧ ∀ y ∈ zs, z < y) →
    Zok (zs.foldl (zstep ns) (f, l, r)).1 (zs.foldl (zstep ns) (f, l, r)).2.1 ∧ ∀ z ∈ (zs.foldl (zstep ns) (f, l, r)).1 ++ (zs.foldl (zstep ns) (f, l, r)).2.1, lo ≤ z ∧ z < hi
  | [], f, l, r, _, _, k, h => ⟨k, fun z hz => ⟨(h z hz).1, (h z hz).2.1⟩⟩
  | y :: zs, f, l, r, u, b, k, h => by
    rw [List.foldl_cons]
    rw [List.pairwise_cons] at u
    have hb := b y List.mem_cons_self
    have b' : ∀ z ∈ zs, lo ≤ z ∧ z < hi := fun z hz => b z (List.mem_cons_of_mem _ hz)
    have hfy : ∀ z ∈ f, z < y := fun z hz => (h z (List.mem_append_left _ hz)).2.2 y List.mem_cons_self
    have hly : ∀ z ∈ l, z < y := fun z hz => (h z (List.mem_append_right _ hz)).2.2 y List.mem_cons_self
    have app : ∀ g : List Int, g.Pairwise (· < ·) → (∀ z ∈ g, z < y) → (g ++ [y]).Pairwise (· < ·) := fun g hg hy => by
      rw [List.pairwise_append]
      exact ⟨hg, List.pairwise_singleton _ _, fun a ha b hb => by rw [List.mem_singleton] at hb; rw [hb]; exact hy a ha⟩
    have old : ∀ z ∈ f ++ l, lo ≤ z ∧ z < hi ∧ ∀ x ∈ zs, z < x := fun z hz => ⟨(h z hz).1, (h z hz).2.1, fun x hx => (h z hz).2.2 x (List.mem_cons_of_mem _ hx)⟩
    unfold zstep
    split
    · refine zfold lo hi zs _ _ _ u.2 b' ⟨app f k.fu hfy, k.lu, fun z hz => ?_⟩ fun z hz => ?_
      · rw [List.mem_append, List.mem_singleton] at hz
        rcases hz with hz | rfl
        · exact k.dj z hz
        · exact fun q => by have := hly _ q; omega
      · rw [List.mem_append, List.mem_append, List.mem_singleton] at hz
        rcases hz with (hz | rfl) | hz
        · exact old z (List.mem_append_left _ hz)
        · exact ⟨hb.1, hb.2, u.1⟩
        · exact old z (List.mem_append_right _ hz)
    · split
      · refine zfold lo hi zs _ _ _ u.2 b' ⟨k.fu, app l k.lu hly, fun z hz => ?_⟩ fun z hz => ?_
        · rw [List.mem_append, List.mem_singleton]
          rintro (q | rfl)
          · exact k.dj z hz q
          · have := hfy _ hz; omega
        · rw [List.mem_append, List.mem_append, List.mem_singleton] at hz
          rcases hz with hz | hz | rfl
          · exact old z (List.mem_append_left _ hz)
          · exact old z (List.mem_append_right _ hz)
          · exact ⟨hb.1, hb.2, u.1⟩
      · exact zfold lo hi zs _ _ _ u.2 b' k old
theorem zlist (zones : Int) (h1 : 1 ≤ zones) (h4 : zones ≤ 4) : ∃ zs : List Int, rng2 [.int 1, .int zones] = some (dI zs) ∧ zs.Pairwise (· < ·) ∧ (∀ z ∈ zs, 1 ≤ z ∧ z < zones) ∧ zs.length ≤ 3 := by
  have : zones = 1 ∨ zones = 2 ∨ zones = 3 ∨ zones = 4 := by omega
  rcases this with rfl | rfl | rfl | rfl
  · exact ⟨[], rfl, by simp, by simp, by simp⟩
  · exact ⟨[1], rfl, by simp, by simp, by simp⟩
  · exact ⟨[1, 2], rfl, by simp, by simp, by simp⟩
  · exact ⟨[1, 2, 3], rfl, by simp, by simp, by simp⟩
theorem zlen {ns : List Int} : ∀ (zs : List Int) (f l : List Int) (r : Row), (zs.foldl (zstep ns) (f, l, r)).1.length ≤ f.length + zs.length ∧ (zs.foldl (zstep ns) (f, l, r)).2.1.length ≤ l.length + zs.length
  | [], f, l, r => by simp
  | z :: zs, f, l, r => by
    rw [List.foldl_cons]
    rw [show zstep ns (f, l, r) z = if raw ns r % 5 < 2 then (f ++ [z], l, nxt ns r) else if raw ns r % 5 < 4 then (f, l ++ [z], nxt ns r) else (f, l, nxt ns r) from rfl]
    split
    · have := zlen (ns := ns) zs (f ++ [z]) l (nxt ns r)
      simp at this ⊢
      omega
    · split
      · have := zlen (ns := ns) zs f (l ++ [z]) (nxt ns r)
        simp at this ⊢
        omega
      · have := zlen (ns := ns) zs f l (nxt ns r)
        simp at this ⊢
        omega
theorem person_ev (ns : List Int) (r : Row) (name : Str) (hn : NameOk name) (zones : Int) (h1 : 1 ≤ zones) (h4 : zones ≤ 4) : ∃ (p : Per), PerOk zones p ∧ p.name = name ∧ p.beg = 0 ∧ ∃ r', m_lw_person [.cel 0, .str name, .int zones] [rowD ns r] = some (.ok (dPer p), [rowD ns r', .dead, .dead]) := by
  obtain ⟨zs, e1, zu, zb, zl⟩ := zlist zones h1 h4
  have fz := zfold (ns := ns) 1 zones zs [] [] r zu zb ⟨List.Pairwise.nil, List.Pairwise.nil, by simp⟩ (by simp)
  have len := zlen (ns := ns) zs [] [] r
  simp [m_lw_person, -v_for]
  refine seq_foldP (mu1 := [rowD ns r, .lst [], .lst []]) (ds := zs) (f := D.int) (zstep ns) (fun s rh mu => mu = [rowD ns s.2.2, .lst (dI s.1), .lst (dI s.2.1)] ∧ ∃ a b, rh = [some (.cel 0), some (.str name), some (.int zones), some (.cel 1), some (.cel 2), a, b, none, none, none]) ([], [], r) ?_ ⟨rfl, none, none, rfl⟩ ?_ (fun o => ∃ (p : Per), PerOk zones p ∧ p.name = name ∧ p.beg = 0 ∧ ∃ r', fin o = some (Rs.ok (dPer p), [rowD ns r', .dead, .dead])) ?_
  · simp [e1]
  · rintro pre z post e _ _ ⟨rfl, a, b, rfl⟩
    have len := zlen (ns := ns) pre [] [] r
    have pl : pre.length ≤ zs.length := by rw [e]; simp
    generalize pre.foldl (zstep ns) ([], [], r) = s at *
    obtain ⟨f, l, r1⟩ := s
    simp at len
    have f1 : f.length < 100000 := by omega
    have f2 : l.length < 100000 := by omega
    by_cases c1 : raw ns r1 % 5 < 2
    · simp [taken_ev, zstep, c1, f1, f2]
      exact ⟨_, _, ⟨rfl, rfl⟩, rfl, _, _, rfl⟩
    · by_cases c2 : raw ns r1 % 5 < 4
      · simp [taken_ev, zstep, c1, c2, f1, f2]
        exact ⟨_, _, ⟨rfl, rfl⟩, rfl, _, _, rfl⟩
      · simp [taken_ev, zstep, c1, c2, f1, f2]
        exact ⟨_, _, ⟨rfl, rfl⟩, rfl, _, _, rfl⟩
  · rintro _ _ ⟨rfl, a, b, rfl⟩
    generalize zs.foldl (zstep ns) ([], [], r) = s at *
    obtain ⟨f, l, r2⟩ := s
    have z1 : 0 < zones + 1 := by omega
    simp [taken_ev, z1]
    have q : ∀ m, 0 ≤ raw ns m % (zones + 1) ∧ raw ns m % (zones + 1) < zones + 1 := fun m => ⟨Int.emod_nonneg _ (by omega), Int.emod_lt_of_pos _ z1⟩
    have q5 : ∀ m, 0 ≤ raw ns m % 5 ∧ raw ns m % 5 < 5 := fun m => ⟨Int.emod_nonneg _ (by omega), Int.emod_lt_of_pos _ (by omega)⟩
    have q9 : ∀ m, 0 ≤ raw ns m % 9 ∧ raw ns m % 9 < 9 := fun m => ⟨Int.emod_nonneg _ (by omega), Int.emod_lt_of_pos _ (by omega)⟩
    refine ⟨⟨name, 0, _, _, _, f, l⟩, ?_, rfl, rfl, rfl, _, rfl⟩
    have g1 := pk_mem (l := [zones - 1, zones - 1, raw ns (nxt ns (nxt ns (nxt ns (nxt ns r2)))) % (zones + 1) - 1]) (n := 3) (x := raw ns (nxt ns (nxt ns (nxt ns (nxt ns (nxt ns r2)))))) rfl (by omega)
    have g2 := pk_mem (l := [0, 0, 1, 2, raw ns r2 % 5]) (n := 5) (x := raw ns (nxt ns r2)) rfl (by omega)
    have g3 := pk_mem (l := [0, 0, 0, raw ns (nxt ns (nxt ns r2)) % 9]) (n := 4) (x := raw ns (nxt ns (nxt ns (nxt ns r2)))) rfl (by omega)
    simp only [List.mem_cons, List.not_mem_nil, or_false] at g1 g2 g3
    have r1 := q (nxt ns (nxt ns (nxt ns (nxt ns r2))))
    have r5 := q5 r2
    have r9 := q9 (nxt ns (nxt ns r2))
    obtain ⟨⟨k1, k2, k3⟩, k4⟩ := fz
    exact { name := hn, b0 := by show (0 : Int) ≤ 0; omega, bz := by show (0 : Int) < zones; omega, g0 := by show -1 ≤ pk _ _ _; omega, gz := by show pk _ _ _ < zones; omega, m0 := by show 0 ≤ pk _ _ _; omega, m4 := by show pk _ _ _ ≤ 4; omega, s0 := by show 0 ≤ pk _ _ _; omega, s8 := by show pk _ _ _ ≤ 8; omega, zs := k4, fu := k1, lu := k2,
            nd := by
              rw [List.nodup_append]
              exact ⟨k1.imp (fun h => Int.ne_of_lt h), k2.imp (fun h => Int.ne_of_lt h), fun a ha b hb e => k3 a ha (e ▸ hb)⟩ }
end Eb

/-! Eb: a house is drawn. -/
namespace Eb
open PySem L2
theorem row_of {f : Phi} {rest : List D} {c c' : Cell} {mu more : Mu} {d : D} (h1 : cfL rest = true) (h2 : cfC c = true) (h : f (.cel 0 :: rest) [c] = some (.ok d, c' :: more)) (h3 : cf d = true) (h4 : cfC c' = true) : mRow f (.cel 0 :: rest) (c :: mu) = some (.ok d, c' :: mu) := by
  show (if cfL rest = true ∧ cfC c = true then (match f (.cel 0 :: rest) [c] with
        | some (r, c' :: _) => if cfR r = true ∧ cfC c' = true then some (r, (c :: mu).set 0 c') else none
        | _ => none)
      else none) = _
  rw [if_pos ⟨h1, h2⟩, h]
  show (if cfR (.ok d) = true ∧ cfC c' = true then _ else _) = _
  rw [if_pos ⟨h3, h4⟩]
  rfl
@[simp] theorem cfC_row {ns : List Int} {r : Row} : cfC (rowD ns r) = true := rfl
/-! ### left hangs on free, led, most alone -/
theorem left_congr {h h' : Hou} (e : ∀ n, (h'.P n).free = (h.P n).free ∧ (h'.P n).led = (h.P n).led ∧ (h'.P n).most = (h.P n).most) (st : List Int) : h'.left st = h.left st := by
  have e1 : ∀ n z, (h'.P n).isFree z = (h.P n).isFree z := fun n z => by unfold Per.isFree; rw [(e n).1]
  have e2 : ∀ n z, (h'.P n).may z = (h.P n).may z := fun n z => by unfold Per.may; rw [e1, (e n).2.1]
  have e3 : ∀ ps zs, h'.bound ps zs = h.bound ps zs := fun ps zs => by
    unfold Hou.bound
    congr 1
    funext n
    congr 2
    congr 1
    funext z
    rw [e1]
  have e4 : ∀ ps zs, h'.hands ps zs = h.hands ps zs := fun ps zs => by
    unfold Hou.hands
    rw [e3]
    congr 2
    funext n
    exact (e n).2.2
  unfold Hou.left
  congr 1
  funext n
  unfold Hou.leftP
  rw [e2, e1, e4, e3]
theorem left_zero {h : Hou} {st : List Int} (hz : ∀ n < st.length, S st n = 0) : h.left st = none := by
  unfold Hou.left
  rw [List.find?_eq_none]
  intro n hn
  have := hz n (List.mem_range.mp hn)
  unfold Hou.leftP
  rw [this]
  simp [Per.may, Per.isFree]
/-! ### the doors -/
theorem mod_lt {x m : Int} (h : 0 < m) : 0 ≤ x % m ∧ x % m < m := ⟨Int.emod_nonneg _ (by omega), Int.emod_lt_of_pos _ h⟩

def Per.from (p : Per) (z : Int) : Per := ⟨p.name, z, p.goal, p.most, p.since, p.free, p.led⟩
theorem r_nat {n : Nat} {d : D} (h : d = .int (n : Int)) (hn : n ≤ 1000000) : rng1 [d] = some (dN (List.range n)) := by
  rw [h]
  exact r_1 hn
theorem house_ev (ns : List Int) (r : Row) : ∃ (h : Hou), HouOk h ∧ ∃ (r' : Row) (more : Mu), m_lw_house [.cel 0] [rowD ns r] = some (.ok (dH h), rowD ns r' :: more) := by
  obtain ⟨zones, hz⟩ : ∃ z, pk [2, 3, 3, 4, 1] 5 (raw ns r) = z := ⟨_, rfl⟩
  have g1 := pk_mem (l := [2, 3, 3, 4, 1]) (n := 5) (x := raw ns r) rfl (by omega)
  rw [hz] at g1
  simp only [List.mem_cons, List.not_mem_nil, or_false] at g1
  have z1 : 1 ≤ zones := by omega
  have z4 : zones ≤ 4 := by omega
  have g2 := pk_mem (l := [5, 7]) (n := 2) (x := raw ns (nxt ns r)) rfl (by omega)
  obtain ⟨w, hw⟩ : ∃ z, pk [5, 7] 2 (raw ns (nxt ns r)) = z := ⟨_, rfl⟩
  rw [hw] at g2
  simp only [List.mem_cons, List.not_mem_nil, or_false] at g2
  have w0 : 0 < w := by omega
  have q1 := mod_lt (x := raw ns (nxt ns (nxt ns r))) w0
  obtain ⟨dn, hdn, d6, dz⟩ : ∃ dn : Nat, (raw ns (nxt ns (nxt ns r)) % w) * (if 1 < zones then 1 else 0) = (dn : Int) ∧ dn ≤ 6 ∧ (zones = 1 → dn = 0) := by
    by_cases c : 1 < zones
    · refine ⟨(raw ns (nxt ns (nxt ns r)) % w).toNat, ?_, ?_, ?_⟩
      · rw [if_pos c]; omega
      · omega
      · omega
    · refine ⟨0, ?_, by omega, fun _ => rfl⟩
      rw [if_neg c]
      simp
  have sm : smallI (if 1 < zones then 1 else 0) = true := by split <;> decide
  have rd : rng1 [.int ((raw ns (nxt ns (nxt ns r)) % w) * (if 1 < zones then 1 else 0))] = some (dN (List.range dn)) := r_nat (by rw [hdn]) (by omega)
  simp [m_lw_house, -v_for, taken_ev, hz, hw, w0]
  refine seq_inv (mu1 := [rowD ns (nxt ns (nxt ns (nxt ns r))), .lst []]) (ds := List.range dn) (f := fun n => D.int (n : Int)) (fun i rh mu => ∃ (doors : List Dor) (r' : Row), doors.length = i ∧ (∀ d ∈ doors, DorOk zones d) ∧ mu = [rowD ns r', .lst (doors.map dDor)] ∧ ∃ a b c d e, rh = [some (.cel 0), some (.int zones), some (.cel 1), a, b, c, d, e, none, none, none, none, none, none, none]) ?_ ⟨[], _, rfl, by simp, rfl, none, none, none, none, none, rfl⟩ ?_ (fun o => ∃ (h : Hou), HouOk h ∧ ∃ (r' : Row) (more : Mu), fin o = some (Rs.ok (dH h), rowD ns r' :: more)) ?_
  · simp [taken_ev, hw, w0, sm, rd]
  · rintro i a ha _ _ ⟨doors, r', dl, dok, rfl, x1, x2, x3, x4, x5, rfl⟩
    have hi : i < dn := by
      have := (List.getElem?_eq_some_iff.mp ha).1
      simpa using this
    have zz : 0 < zones - 1 := by omega
    have q2 := mod_lt (x := raw ns r') zz
    obtain ⟨one, ho⟩ : ∃ z, raw ns r' % (zones - 1) = z := ⟨_, rfl⟩
    rw [ho] at q2
    have zo : 0 < zones - 1 - one := by omega
    have q3 := mod_lt (x := raw ns (nxt ns r')) zo
    have q4 := mod_lt (x := raw ns (nxt ns (nxt ns r'))) (m := 8) (by omega)
    have g3 := pk_mem (l := [0, 0, raw ns (nxt ns (nxt ns r')) % 8]) (n := 3) (x := raw ns (nxt ns (nxt ns (nxt ns r')))) rfl (by omega)
    obtain ⟨ope, hope⟩ : ∃ z, pk [0, 0, raw ns (nxt ns (nxt ns r')) % 8] 3 (raw ns (nxt ns (nxt ns (nxt ns r')))) = z := ⟨_, rfl⟩
    rw [hope] at g3
    simp only [List.mem_cons, List.not_mem_nil, or_false] at g3
    have o8 : 0 < 8 - ope := by omega
    have t1 := fun r rest => taken_ev (ns := ns) (r := r) (rest := rest) zz
    have t2 := fun r rest => taken_ev (ns := ns) (r := r) (rest := rest) zo
    have t3 := fun r rest => taken_ev (ns := ns) (r := r) (rest := rest) o8
    have dl : doors.length < 100000 := by omega
    have g4 := pk_mem (l := [8, ope + 1 + raw ns (nxt ns (nxt ns (nxt ns (nxt ns r')))) % (8 - ope)]) (n := 2) (x := raw ns (nxt ns (nxt ns (nxt ns (nxt ns (nxt ns r')))))) rfl (by omega)
    have g5 := pk_mem (l := [1, 2, 2, 3, 4]) (n := 5) (x := raw ns (nxt ns (nxt ns (nxt ns (nxt ns (nxt ns (nxt ns r'))))))) rfl (by omega)
    obtain ⟨sh, hsh⟩ : ∃ z, pk [8, ope + 1 + raw ns (nxt ns (nxt ns (nxt ns (nxt ns r')))) % (8 - ope)] 2 (raw ns (nxt ns (nxt ns (nxt ns (nxt ns (nxt ns r')))))) = z := ⟨_, rfl⟩
    obtain ⟨wd, hwd⟩ : ∃ z, pk [1, 2, 2, 3, 4] 5 (raw ns (nxt ns (nxt ns (nxt ns (nxt ns (nxt ns (nxt ns r'))))))) = z := ⟨_, rfl⟩
    rw [hsh] at g4
    rw [hwd] at g5
    simp [taken_ev, t1, t2, t3, ho, hope, dl, hsh, hwd]
    have q5 := mod_lt (x := raw ns (nxt ns (nxt ns (nxt ns (nxt ns r'))))) o8
    simp only [List.mem_cons, List.not_mem_nil, or_false] at g4 g5
    refine ⟨_, _, ⟨rfl, rfl⟩, doors ++ [⟨one, _, wd, ope, sh⟩], by simp [*], ?_, ⟨_, by rw [List.map_append]; rfl⟩, _, _, _, _, _, rfl⟩
    intro d hd
    rw [List.mem_append, List.mem_singleton] at hd
    rcases hd with hd | rfl
    · exact dok d hd
    · constructor <;> simp only <;> omega
  · rintro _ _ ⟨doors, r', dl, dok, rfl, x1, x2, x3, x4, x5, rfl⟩
    rw [List.length_range] at dl
    obtain ⟨nms, nl, nok, nnd, ne⟩ := names_ev ns r'
    have n1 : ∀ mu, mRow m_lw_names [.cel 0] (rowD ns r' :: mu) = some (.ok (.lst (nms.map .str)), rowD ns (nxt ns (nxt ns r')) :: mu) := fun mu =>
      row_of rfl rfl (ne []) (by simpa using cfL_map (f := D.str) (fun _ => rfl) nms) rfl
    generalize nxt ns (nxt ns r') = r2 at *
    have q6 := mod_lt (x := raw ns r2) (m := 4) (by omega)
    obtain ⟨mn, hm⟩ : ∃ mn : Nat, 1 + raw ns r2 % 4 = (mn : Int) := ⟨(1 + raw ns r2 % 4).toNat, by omega⟩
    have m1 : 1 ≤ mn := by omega
    have m4 : mn ≤ 4 := by omega
    have hpeople := fun a b c d e => lc_inv (mu0 := [rowD ns (nxt ns r2), .dead]) (mu := [rowD ns (nxt ns r2), .dead]) (ds := List.range mn) (f := fun n => D.int (n : Int)) (g := dPer) (j := 3) (it := mRng1 (mCons (mVar 9) mNil)) (c := mYes) (m := mCall (mRow m_lw_person) (mCons (mVar 0) (mCons (mOp ixD (mVar 8) (mVar 3)) (mCons (mVar 1) (mNil))))) (rh := [some (.cel 0), some (.int zones), some (.lst (doors.map dDor)), a, b, c, d, e, some (.lst (nms.map .str)), some (.int mn), none, none, none, none, none])
      (fun i bs mu => bs.length = i ∧ (∀ p ∈ bs, PerOk zones p ∧ p.beg = 0) ∧ bs.map (·.name) = nms.take i ∧ ∃ r', mu = [rowD ns r', .dead]) (by simp [r_1 (show mn ≤ 1000000 by omega)]) (by simp; omega) ⟨rfl, by simp, rfl, _, rfl⟩ (by
        rintro i a ha bs _ ⟨bl, bok, bn, r3, rfl⟩
        have hi : i < mn := by
          have := (List.getElem?_eq_some_iff.mp ha).1
          simpa using this
        have ea : a = i := by
          rw [List.getElem?_range hi] at ha
          exact (Option.some.inj ha).symm
        subst ea
        have hin : a < nms.length := by omega
        obtain ⟨p, pok, pn, pb, r4, pe⟩ := person_ev ns r3 nms[a] (nok _ (List.getElem_mem hin)) zones z1 z4
        have pr := row_of (mu := [.dead]) rfl rfl pe (by simp) rfl
        refine ⟨true, _, rfl, fun _ => ⟨p, [rowD ns r4, .dead], ?_, ?_⟩, fun q => by cases q⟩
        · simp [wipeR, hin, pr]
        · refine ⟨by simp [bl], ?_, ?_, r4, rfl⟩
          · intro x hx
            rw [List.mem_append, List.mem_singleton] at hx
            rcases hx with hx | rfl
            · exact bok x hx
            · exact ⟨pok, pb⟩
          · rw [List.map_append, bn, List.take_add_one]
            congr 1
            simp [hin, pn])
    obtain ⟨ps, _, hp1, ⟨pl, pok, pn, r3, rfl⟩, _⟩ := hpeople x1 x2 x3 x4 x5
    rw [List.length_range] at pl
    obtain ⟨hv, e4, hv4, hv9⟩ : ∃ hv, atI [D.int 9, .int 6, .int 6, .int 4] ((mn : Int) - 1) = some (.int hv) ∧ 4 ≤ hv ∧ hv ≤ 9 := by
      have : mn = 1 ∨ mn = 2 ∨ mn = 3 ∨ mn = 4 := by omega
      rcases this with rfl | rfl | rfl | rfl
      · exact ⟨9, rfl, by omega, by omega⟩
      · exact ⟨6, rfl, by omega, by omega⟩
      · exact ⟨6, rfl, by omega, by omega⟩
      · exact ⟨4, rfl, by omega, by omega⟩
    have hv0 : 0 < hv - (if zones = 4 then 1 else 0) := by split <;> omega
    have t1 := fun r rest => taken_ev (ns := ns) (r := r) (rest := rest) hv0
    have q7 := mod_lt (x := raw ns r3) hv0
    have hv8 : hv - (if zones = 4 then 1 else 0) ≤ 9 := by split <;> omega
    obtain ⟨ho, hho⟩ : ∃ z, raw ns r3 % (hv - (if zones = 4 then 1 else 0)) = z := ⟨_, rfl⟩
    rw [hho] at q7
    let pre : Rho := [some (.cel 0), some (.int zones), some (.lst (doors.map dDor)), x1, x2, x3, x4, x5, some (.lst (nms.map .str)), some (.int mn), some (.lst (ps.map dPer))]
    obtain ⟨hrs, r4, hr0, hr8, hif⟩ : ∃ hrs r4, 0 ≤ hrs ∧ hrs ≤ 8 ∧ sIf (mAnd (mTest (mOp ltD (mCB (pureF lenD) (mCons (mVar 2) (mNil))) (mC (.int 3)))) (mTest (mOp eqD (mCall m_lw_taken (mCons (mVar 0) (mCons (mC (.int 4)) (mNil)))) (mC (.int 3))))) (sAsg (mOp addD (mC (.int 5)) (mCall m_lw_taken (mCons (mVar 0) (mCons (mC (.int 4)) (mNil))))) (tNm 11)) (sSkip) (pre ++ [some (.int ho), none, none, none]) [rowD ns (nxt ns r3), .dead] = some (.nx (pre ++ [some (.int hrs), none, none, none]), [rowD ns r4, .dead]) := by
      by_cases c1 : doors.length < 3
      · by_cases c2 : raw ns (nxt ns r3) % 4 = 3
        · have := mod_lt (x := raw ns (nxt ns (nxt ns r3))) (m := 4) (by omega)
          refine ⟨5 + raw ns (nxt ns (nxt ns r3)) % 4, nxt ns (nxt ns (nxt ns r3)), by omega, by omega, ?_⟩
          have c1' : (doors.length : Int) < 3 := by omega
          simp [pre, taken_ev, c1', c2]
        · refine ⟨ho, nxt ns (nxt ns r3), by omega, by omega, ?_⟩
          have c1' : (doors.length : Int) < 3 := by omega
          simp [pre, taken_ev, c1', c2]
      · refine ⟨ho, nxt ns r3, by omega, by omega, ?_⟩
        have c1' : ¬ (doors.length : Int) < 3 := by omega
        simp [pre, taken_ev, c1']
    let h0 : Hou := ⟨zones, hrs, doors, ps⟩
    obtain ⟨st, _, hs1, ⟨sl, sb, r5, rfl⟩, _⟩ := lc_inv (mu0 := [rowD ns r4, .dead]) (mu := [rowD ns r4, .dead]) (ds := ps) (f := dPer) (g := D.int) (j := 14) (it := mItems (mVar 10)) (c := mYes) (m := mCall m_lw_taken (mCons (mVar 0) (mCons (mVar 1) (mNil)))) (rh := pre ++ [some (.int hrs), some (dH h0), none, none])
      (fun i bs mu => bs.length = i ∧ (∀ z ∈ bs, 0 ≤ z ∧ z < zones) ∧ ∃ r', mu = [rowD ns r', .dead]) (by simp [pre]) (by omega) ⟨rfl, by simp, _, rfl⟩ (by
        rintro i a ha bs _ ⟨bl, bb, r5, rfl⟩
        have zz : 0 < zones := by omega
        have := mod_lt (x := raw ns r5) zz
        refine ⟨true, _, rfl, fun _ => ⟨raw ns r5 % zones, [rowD ns (nxt ns r5), .dead], ?_, by simp [bl], ?_, _, rfl⟩, fun q => by cases q⟩
        · simp [pre, wipeR, taken_ev zz]
        · intro z hz
          rw [List.mem_append, List.mem_singleton] at hz
          rcases hz with hz | rfl
          · exact bb z hz
          · exact this)
    have hl := lw_left_pv (h := h0) (st := st) (mu := [rowD ns (nxt ns r5), .dead]) (by show st.length ≤ ps.length; omega) (by omega)
    have hP : ∀ n (l : n < mn), h0.people[n]? = some (h0.P n) := fun n l => Hou.P_of (by show n < ps.length; omega)
    have hpeople2 : mLc [3] (mRng1 (mCons (mVar 9) (mNil))) (tNm 3) (mYes) (mOp addD (mOp addD (mSl (mOp ixD (mVar 10) (mVar 3)) (mNoP) (mPart (mC (.int 1)))) (mTup (mCons (mOp ixD (mVar 13) (mVar 3)) (mNil)))) (mSl (mOp ixD (mVar 10) (mVar 3)) (mPart (mC (.int 2))) (mNoP))) (pre ++ [some (.int hrs), some (dH h0), some (.tup (dI st)), none]) [rowD ns (nxt ns r5), .dead] = some (.ok (.lst (((List.range mn).map fun n => (h0.P n).from (S st n)).map dPer)), [rowD ns (nxt ns r5), .dead]) := by
      rw [lc_ev (ds := List.range mn) (f := fun n => D.int (n : Int)) (fun _ => true) (fun n => dPer ((h0.P n).from (S st n))) ?_ ?_ ?_ ?_]
      · rw [fil_true, List.map_map]
        rfl
      · simp [pre, r_1 (show mn ≤ 1000000 by omega)]
      · simp; omega
      · intro k hk
        simp
      · intro k hk _
        have hk := List.mem_range.mp hk
        have e1 : ps[k]? = some (h0.P k) := hP k hk
        have e2 : st[k]? = some (S st k) := S_of (by omega)
        have e3 : ∀ a b c d e f g : D, cutL [a, b, c, d, e, f, g] none (some 1) = [a] := fun _ _ _ _ _ _ _ => rfl
        have e5 : ∀ a b c d e f g : D, cutL [a, b, c, d, e, f, g] (some 2) none = [c, d, e, f, g] := fun _ _ _ _ _ _ _ => rfl
        simp [pre, wipeR, e1, e2, e3, e5, lim_ok, dPer, Per.from]
    obtain ⟨ps2, r6, hok, hif2⟩ : ∃ ps2 r6, HouOk ⟨zones, hrs, doors, ps2⟩ ∧ sIf (mAnd (mTest (mOp eqD (mCall m_lw_taken (mCons (mVar 0) (mCons (mC (.int 3)) (mNil)))) (mC (.int 0)))) (mTest (mOp isD (mCall (mPure m_lw_left) (mCons (mVar 12) (mCons (mVar 13) (mNil)))) (mC .non)))) (sAsg (mLc [3] (mRng1 (mCons (mVar 9) (mNil))) (tNm 3) (mYes) (mOp addD (mOp addD (mSl (mOp ixD (mVar 10) (mVar 3)) (mNoP) (mPart (mC (.int 1)))) (mTup (mCons (mOp ixD (mVar 13) (mVar 3)) (mNil)))) (mSl (mOp ixD (mVar 10) (mVar 3)) (mPart (mC (.int 2))) (mNoP)))) (tNm 10)) (sSkip) (pre ++ [some (.int hrs), some (dH h0), some (.tup (dI st)), none]) [rowD ns r5, .dead] = some (.nx ((pre ++ [some (.int hrs), some (dH h0), some (.tup (dI st)), none]).set 10 (some (.lst (ps2.map dPer)))), [rowD ns r6, .dead]) := by
      have base : ∀ qs : List Per, qs.length = mn → (∀ p ∈ qs, PerOk zones p) → qs.map (·.name) = ps.map (·.name) → (⟨zones, hrs, doors, qs⟩ : Hou).left (qs.map (·.beg)) = none → HouOk ⟨zones, hrs, doors, qs⟩ := fun qs ql qok qn qe =>
        { z1 := z1, z4 := z4, h0 := hr0, h8 := hr8, d6 := by show doors.length ≤ 6; omega, dor := dok, p1 := by show 1 ≤ qs.length; omega, p4 := by show qs.length ≤ 4; omega, per := qok,
          nms := by
            show (qs.map (·.name)).Nodup
            rw [qn, pn]
            exact (List.take_sublist _ _).nodup nnd
          left := qe }
      by_cases c1 : raw ns r5 % 3 = 0
      · cases c2 : h0.left st with
        | none =>
          refine ⟨(List.range mn).map fun n => (h0.P n).from (S st n), nxt ns r5, base _ (by simp) ?_ ?_ ?_, ?_⟩
          · intro p hp
            obtain ⟨n, hn, rfl⟩ := List.mem_map.mp hp
            have hn := List.mem_range.mp hn
            have k := (pok _ (List.mem_of_getElem? (hP n hn))).1
            have e2 : st[n]? = some (S st n) := S_of (by omega)
            have k2 := sb _ (List.mem_of_getElem? e2)
            exact { name := k.name, b0 := k2.1, bz := k2.2, g0 := k.g0, gz := k.gz, m0 := k.m0, m4 := k.m4, s0 := k.s0, s8 := k.s8, zs := k.zs, nd := k.nd, fu := k.fu, lu := k.lu }
          · apply List.ext_getElem?
            intro i
            rw [List.getElem?_map, List.getElem?_map, List.getElem?_map]
            by_cases hi : i < mn
            · rw [List.getElem?_range hi]
              have e1 : ps[i]? = some (h0.P i) := hP i hi
              rw [e1]
              rfl
            · rw [List.getElem?_eq_none (by simp; omega), List.getElem?_eq_none (by omega)]
              rfl
          · have e1 : ((List.range mn).map fun n => (h0.P n).from (S st n)).map (·.beg) = st := by
              apply List.ext_getElem?
              intro i
              rw [List.getElem?_map, List.getElem?_map]
              by_cases hi : i < mn
              · rw [List.getElem?_range hi, S_of (by omega)]
                rfl
              · rw [List.getElem?_eq_none (by simp; omega), List.getElem?_eq_none (by omega)]
                rfl
            rw [e1, ← c2]
            refine left_congr (fun n => ?_) st
            by_cases hn : n < mn
            · have e2 : (⟨zones, hrs, doors, (List.range mn).map fun n => (h0.P n).from (S st n)⟩ : Hou).P n = (h0.P n).from (S st n) := by
                show (((List.range mn).map fun n => (h0.P n).from (S st n))[n]?).getD _ = _
                rw [List.getElem?_map, List.getElem?_range hn]
                rfl
              rw [e2]
              exact ⟨rfl, rfl, rfl⟩
            · have e2 : (⟨zones, hrs, doors, (List.range mn).map fun n => (h0.P n).from (S st n)⟩ : Hou).P n = h0.P n := by
                show (((List.range mn).map fun n => (h0.P n).from (S st n))[n]?).getD _ = (ps[n]?).getD _
                rw [List.getElem?_eq_none (by simp; omega), List.getElem?_eq_none (by omega)]
              rw [e2]
              exact ⟨rfl, rfl, rfl⟩
          · simp only [pre, List.cons_append, List.nil_append] at hpeople2
            simp [pre, taken_ev, c1, hl, c2, dO, hpeople2]
        | some x =>
          refine ⟨ps, nxt ns r5, base ps pl (fun p hp => (pok p hp).1) rfl (left_zero fun n hn => ?_), ?_⟩
          · have := List.mem_map.mp (List.mem_of_getElem? (S_of (st := ps.map (·.beg)) hn))
            obtain ⟨p, hp, e⟩ := this
            rw [← e]
            exact (pok p hp).2
          · simp [pre, taken_ev, c1, hl, c2, dO]
      · refine ⟨ps, nxt ns r5, base ps pl (fun p hp => (pok p hp).1) rfl (left_zero fun n hn => ?_), ?_⟩
        · have := List.mem_map.mp (List.mem_of_getElem? (S_of (st := ps.map (·.beg)) hn))
          obtain ⟨p, hp, e⟩ := this
          rw [← e]
          exact (pok p hp).2
        · simp [pre, taken_ev, c1]
    have eh : D.tup [D.int zones, D.int hrs, D.lst (List.map dDor doors), D.lst (List.map dPer ps)] = dH h0 := rfl
    simp only [pre, List.cons_append, List.nil_append] at hif hif2 hs1
    simp [n1, taken_ev, hm, hp1, e4, t1, hho, -v_ifS, hif, eh, hs1, hif2]
    exact ⟨_, hok, rfl, _, rfl⟩
end Eb

/-! Eb: steps and states are drawn. -/
namespace Eb
open PySem L2
theorem pl_D (d : Dor) (n : Nat) : pl (n + 2) (dDor d) = true := rfl
theorem pl_name {x : Str} (k : NameOk x) (n : Nat) : pl (n + 1) (.str x) = true := by
  show (x.cps.all (· < 0x110000)) = true
  rw [Array.all_eq_true_iff_forall_mem]
  intro c hc
  have : c ∈ letters := k.az c (by simpa using hc)
  have h2 : ∀ c ∈ letters, c < 0x110000 := by decide +kernel
  exact decide_eq_true (h2 c this)
theorem pl_P {z : Int} {p : Per} (k : PerOk z p) (n : Nat) : pl (n + 3) (dPer p) = true := by
  show ([D.str p.name, .int p.beg, .int p.goal, .int p.most, .int p.since, .tup (dI p.free), .tup (dI p.led)].all (pl (n + 2))) = true
  have h1 := pl_name k.name (n + 1)
  have h2 : pl (n + 2) (.tup (dI p.free)) = true := pl_I n _
  have h3 : pl (n + 2) (.tup (dI p.led)) = true := pl_I n _
  simp only [List.all_cons, List.all_nil, h1, h2, h3, Bool.and_true]
  rfl
theorem pl_doors (l : List Dor) : pl 12 (.lst (l.map dDor)) = true := by
  show (l.map dDor).all (pl 11) = true
  rw [List.all_map, List.all_eq_true]
  exact fun d _ => pl_D d 9
theorem pl_people {h : Hou} (H : HouOk h) : pl 12 (.lst (h.people.map dPer)) = true := by
  show (h.people.map dPer).all (pl 11) = true
  rw [List.all_map, List.all_eq_true]
  exact fun d hd => pl_P (H.per d hd) 8
@[simp] theorem eq_doors {mu : Mu} {l : List Dor} : eqD mu (.lst (l.map dDor)) (.lst []) = some (.bl l.isEmpty) := by
  rw [o_eqP (pl_doors l) rfl, same_nil]
  simp
@[simp] theorem eq_grp {mu : Mu} {l : List Nat} : eqD mu (.tup (dN l)) (.tup []) = some (.bl l.isEmpty) := by
  rw [o_eqP (pl_tN l) rfl, same_nilT]
  simp
@[simp] theorem eq_nilL {mu : Mu} : eqD mu (.lst []) (.lst []) = some (.bl true) := by rw [o_eqP rfl rfl, same_refl]
@[simp] theorem eq_nilT {mu : Mu} : eqD mu (.tup []) (.tup []) = some (.bl true) := by rw [o_eqP rfl rfl, same_refl]
theorem drawn_ev (ns : List Int) (r : Row) {h : Hou} (H : HouOk h) : ∃ (s : Stp) (r' : Row), StpOk h s ∧ m_lw_drawn_01 [.cel 0, dH h] [rowD ns r] = some (.ok (dS s), [rowD ns r']) := by
  have p4 := H.p4
  have p1 := H.p1
  by_cases c1 : h.doors = []
  · exact ⟨.wait, r, trivial, by simp [m_lw_drawn_01, c1, dS]⟩
  · by_cases c2 : raw ns r % 12 = 11
    · exact ⟨.wait, nxt ns r, trivial, by simp [m_lw_drawn_01, c1, taken_ev, c2, dS]⟩
    · obtain ⟨g, _, hg, ⟨gb, gu, r1, rfl⟩, _⟩ := lc_inv (mu0 := [rowD ns (nxt ns r)]) (mu := [rowD ns (nxt ns r)]) (ds := List.range h.people.length) (f := fun n => D.int (n : Int)) (g := fun (n : Nat) => D.int (n : Int)) (j := 4) (it := mRng1 (mCons (mVar 2) mNil)) (c := mTest (mOp eqD (mCall m_lw_taken (mCons (mVar 0) (mCons (mC (.int 2)) (mNil)))) (mC (.int 1)))) (m := mVar 4) (rh := [some (.cel 0), some (dH h), some (.int h.people.length), none, none])
        (fun i bs mu => (∀ n ∈ bs, n < i) ∧ bs.Pairwise (· < ·) ∧ ∃ r', mu = [rowD ns r']) (by simp [r_1 (show h.people.length ≤ 1000000 by omega)]) (by simp; omega) ⟨by simp, List.Pairwise.nil, _, rfl⟩ (by
          rintro i a ha bs _ ⟨bb, bu, r5, rfl⟩
          have hi : i < h.people.length := by
            have := (List.getElem?_eq_some_iff.mp ha).1
            simpa using this
          have ea : a = i := by
            rw [List.getElem?_range hi] at ha
            exact (Option.some.inj ha).symm
          subst ea
          refine ⟨decide (raw ns r5 % 2 = 1), [rowD ns (nxt ns r5)], by simp [wipeR, taken_ev], fun _ => ⟨a, [rowD ns (nxt ns r5)], by simp [wipeR], ?_, ?_, _, rfl⟩, fun _ => ⟨fun n hn => by have := bb n hn; omega, bu, _, rfl⟩⟩
          · intro n hn
            rw [List.mem_append, List.mem_singleton] at hn
            rcases hn with hn | rfl
            · have := bb n hn; omega
            · omega
          · rw [List.pairwise_append]
            refine ⟨bu, List.pairwise_singleton _ _, fun x hx y hy => ?_⟩
            rw [List.mem_singleton] at hy
            rw [hy]
            exact bb x hx)
      rw [List.length_range] at gb
      have dl : 0 < (h.doors.length : Int) := by
        have : 0 < h.doors.length := List.length_pos_iff.mpr c1
        omega
      have dq := fun r => mod_lt (x := raw ns r) dl
      have t1 := fun r rest => taken_ev (ns := ns) (r := r) (rest := rest) dl
      by_cases c3 : g = []
      · have pl : 0 < (h.people.length : Int) := by omega
        have pq := mod_lt (x := raw ns r1) pl
        have t2 := fun r rest => taken_ev (ns := ns) (r := r) (rest := rest) pl
        obtain ⟨n, hn⟩ : ∃ n : Nat, raw ns r1 % h.people.length = (n : Int) := ⟨(raw ns r1 % h.people.length).toNat, by omega⟩
        have dq := dq (nxt ns r1)
        obtain ⟨m, hm⟩ : ∃ n : Nat, raw ns (nxt ns r1) % h.doors.length = (n : Int) := ⟨(raw ns (nxt ns r1) % h.doors.length).toNat, by omega⟩
        subst c3
        simp at hg
        refine ⟨.go m [n], nxt ns (nxt ns r1), ⟨by omega, fun k hk => by rw [List.mem_singleton] at hk; omega, by simp, List.pairwise_singleton _ _⟩, ?_⟩
        simp [m_lw_drawn_01, c1, taken_ev, c2, hg, t1, t2, hn, hm, dS]
      · have dq := dq r1
        obtain ⟨m, hm⟩ : ∃ n : Nat, raw ns r1 % h.doors.length = (n : Int) := ⟨(raw ns r1 % h.doors.length).toNat, by omega⟩
        refine ⟨.go m g, nxt ns r1, ⟨by omega, gb, c3, gu⟩, ?_⟩
        simp [m_lw_drawn_01, c1, taken_ev, c2, hg, t1, hm, dS, c3]

theorem bar_pl {h : Hou} {hour : Int} {st : List Int} {s : Stp} : pl 12 (dB (h.bar hour st s)) = true := by
  have key : ∀ w n, PyData.strOk w = true → pl 12 (dB (some (w, n))) = true := fun w n hw => by
    show ([D.str w, .int n].all (pl 11)) = true
    simp only [List.all_cons, List.all_nil, Bool.and_true]
    have : pl 11 (.str w) = true := hw
    rw [this]
    rfl
  cases s with
  | wait => rfl
  | go num g =>
    show pl 12 (dB (h.barGo hour st num g (S st (g.headD 0)))) = true
    unfold Hou.barGo Hou.barA Hou.barW Hou.barG
    repeat' split
    all_goals first | exact key _ _ (by decide +kernel) | rfl
theorem rep_mul {mu : Mu} {z : Int} {n : Nat} (h1 : 1 ≤ n) (h4 : n ≤ 4) : mul1D mu (.tup [.int z]) (.int (n : Int)) = some (.tup (dI (List.replicate n z))) := by
  have : n = 1 ∨ n = 2 ∨ n = 3 ∨ n = 4 := by omega
  rcases this with rfl | rfl | rfl | rfl <;> rfl
theorem neSame {mu : Mu} {d : D} (h : pl 12 d = true) : neD mu d d = some (.bl false) := by
  rw [o_neP h h, same_refl]
  rfl
theorem pl_O {o : Option Nat} : pl 12 (dO o) = true := by cases o <;> rfl
/-- a drawn state -/
structure StOk (h : Hou) (st : List Int) : Prop where
  len : st.length = h.people.length
  lo : ∀ z ∈ st, 0 ≤ z
  hi : ∀ z ∈ st, z < h.zones
end Eb

/-! Eb: what is no house. -/
namespace Eb
open PySem L2
def nameB (x : Str) : Bool := decide (1 ≤ x.length) && decide (x.length ≤ 8) && x.cps.toList.all (fun c => decide (c ∈ letters))
structure TxB (x : Str) : Prop where
  len : x.length ≤ 1000
  ok : ∀ c ∈ x.cps.toList, c < 0x110000
theorem pl_str {x : Str} (k : ∀ c ∈ x.cps.toList, c < 0x110000) (n : Nat) : pl (n + 1) (.str x) = true := by
  show (x.cps.all (· < 0x110000)) = true
  rw [Array.all_eq_true_iff_forall_mem]
  intro c hc
  exact decide_eq_true (k c (by simpa using hc))
theorem is_name_gen {mu : Mu} {x : Str} (k : TxB x) : m_is_name [.str x] mu = some (.ok (.bl (nameB x)), mu) := by
  have h1 : mLc [1] (mItems (mVar 0)) (tNm 1) (mTest (mOp notinS (mVar 1) (mC (.str "abcdefghijklmnopqrstuvwxyz")))) (mVar 1) [some (.str x), none] mu = some (.ok (.lst ((x.cps.toList.filter fun c => !decide (c ∈ letters)).map fun c => .str ⟨#[c]⟩)), mu) := by
    rw [lc_ev (ds := x.cps.toList) (f := fun c => .str ⟨#[c]⟩) (fun c => !decide (c ∈ letters)) (fun c => .str ⟨#[c]⟩) ?_ ?_ ?_ ?_]
    · simp [itemsOf]
    · have := k.len
      show x.cps.toList.length ≤ 100000
      have : x.length = x.cps.toList.length := by simp [Str.length]
      omega
    · intro c hc
      simp [wipeR, notinS, letters]
    · intro c hc _
      simp [wipeR]
  have e1 : eqD mu (.lst ((x.cps.toList.filter fun c => !decide (c ∈ letters)).map fun c => .str ⟨#[c]⟩)) (.lst []) = some (.bl (x.cps.toList.all fun c => decide (c ∈ letters))) := by
    rw [o_eqP ?_ rfl, same_nil]
    · congr 2
      rw [Bool.eq_iff_iff, List.isEmpty_iff, List.map_eq_nil_iff, List.filter_eq_nil_iff, List.all_eq_true]
      constructor
      · intro h c hc
        have := h c hc
        simpa using this
      · intro h c hc
        have := h c hc
        simpa using this
    · show (((x.cps.toList.filter fun c => !decide (c ∈ letters)).map fun c => (D.str ⟨#[c]⟩)).all (pl 11)) = true
      rw [List.all_map, List.all_eq_true]
      intro c hc
      exact pl_str (x := ⟨#[c]⟩) (fun c' h => by
        have : c' = c := by simpa using h
        rw [this]
        exact k.ok c (List.mem_filter.mp hc).1) 10
  have l3 : x.length ≤ 100000 := by have := k.len; omega
  by_cases a : 1 ≤ x.length
  · have a' : (1 : Int) ≤ x.length := by omega
    by_cases b : x.length ≤ 8
    · have b' : (x.length : Int) ≤ 8 := by omega
      simp [m_is_name, h1, e1, l3, a', b', nameB, a, b]
    · have b' : ¬ (x.length : Int) ≤ 8 := by omega
      simp [m_is_name, h1, e1, l3, a', b', nameB, a, b]
  · have a' : ¬ (1 : Int) ≤ x.length := by omega
    simp [m_is_name, h1, e1, l3, a', nameB, a]
def goodD (z : Int) (d : Dor) : Bool := decide (0 ≤ d.one) && decide (d.one < d.oth) && decide (d.oth < z) && decide (1 ≤ d.wide) && decide (d.wide ≤ 4) && decide (0 ≤ d.ope) && decide (d.ope < d.shu) && decide (d.shu ≤ 8)
theorem is_door_gen {o : D} {h : Hou} {mu : Mu} (ho : insOf mu o = some (0, hF h)) (d : Dor) : m_House_is_door [o, dDor d] mu = some (.ok (.bl (goodD h.zones d)), mu) := by
  have eD : ∀ u rh, tTp 5 u (dDor d) rh = u [.int d.one, .int d.oth, .int d.wide, .int d.ope, .int d.shu] rh := fun _ _ => rfl
  by_cases a1 : 0 ≤ d.one <;> simp [m_House_is_door, eD, ho, hF, goodD, a1]
  by_cases a2 : d.one < d.oth <;> simp [a2]
  by_cases a3 : d.oth < h.zones <;> simp [a3]
  by_cases a4 : 1 ≤ d.wide <;> simp [a4]
  by_cases a5 : d.wide ≤ 4 <;> simp [a5]
  by_cases a6 : 0 ≤ d.ope <;> simp [a6]
/-- somebody is one, beside those ahead -/
def persB (h : Hou) (n : Nat) : Bool := nameB (h.P n).name && !decide ((h.P n).name ∈ (h.people.take n).map (·.name)) && (decide (0 ≤ (h.P n).beg) && decide ((h.P n).beg < h.zones)) && (decide (-1 ≤ (h.P n).goal) && decide ((h.P n).goal < h.zones))
  && (decide (0 ≤ (h.P n).most) && decide ((h.P n).most ≤ 4)) && (decide (0 ≤ (h.P n).since) && decide ((h.P n).since ≤ 8)) && (((h.P n).free ++ (h.P n).led).all fun z => decide (1 ≤ z) && decide (z < h.zones))
  && decide ((sdd ((h.P n).free ++ (h.P n).led)).length = ((h.P n).free ++ (h.P n).led).length) && decide ((h.P n).free = srt (h.P n).free) && decide ((h.P n).led = srt (h.P n).led)
structure PerB (p : Per) : Prop where
  name : TxB p.name
  fl : p.free.length ≤ 30
  ll : p.led.length ≤ 30
structure HouB (h : Hou) : Prop where
  d : h.doors.length ≤ 1000
  p : h.people.length ≤ 1000
  per : ∀ p ∈ h.people, PerB p
theorem dI_inj {l m : List Int} (h : dI l = dI m) : l = m := by
  have := congrArg (List.map fun d => match d with | D.int i => i | _ => 0) h
  simpa [dI, Function.comp_def] using this
theorem same_I (l m : List Int) : same (.tup (dI l)) (.tup (dI m)) = decide (l = m) := by
  unfold same
  by_cases h : l = m
  · simp [h]
  · have : ¬ D.tup (dI l) = D.tup (dI m) := fun q => h (dI_inj (D.tup.inj q))
    simp [this, h]
theorem srt_len (l : List Int) : (srt l).length = l.length := (srt_perm l).length_eq
theorem sortI {mu : Mu} {l : List Int} (h : l.length < 64) : sortTupD mu [.tup (dI l)] = some (.lst (dI (srt l))) := by
  unfold sortTupD
  simp [h]
theorem is_person_gen {o : D} {h : Hou} {mu : Mu} (ho : insOf mu o = some (0, hF h)) (B : HouB h) {n : Nat} (hn : n < h.people.length) : m_House_is_person [o, .int n] mu = some (.ok (.bl (persB h n)), mu) := by
  have k := B.per _ (Hou.P_mem hn)
  have fp := B.p
  have eP : ∀ u rh, tTp 7 u (dPer (h.P n)) rh = u [.str (h.P n).name, .int (h.P n).beg, .int (h.P n).goal, .int (h.P n).most, .int (h.P n).since, .tup (dI (h.P n).free), .tup (dI (h.P n).led)] rh := fun _ _ => rfl
  have fl := k.fl
  have ll := k.ll
  have h1 : ∀ a b c d e i j k l m, mLc [10] (mItems (mSl (mFld 0 3 (mVar 0)) (mNoP) (mPart (mVar 1)))) (tNm 10) (mYes) (mOp ixD (mVar 10) (mC (.int 0))) [some o, some (.int n), a, b, c, d, e, i, j, k, l, m] mu = some (.ok (.lst (((h.people.take n).map (·.name)).map .str)), mu) := by
    intros
    rw [lc_ev (ds := h.people.take n) (f := dPer) (fun _ => true) (fun p => .str p.name) ?_ ?_ ?_ ?_]
    · rw [fil_true, List.map_map]
      rfl
    · simp [ho, hF, cut_take]
    · simp; omega
    · intro p hp
      simp
    · intro p hp _
      simp [wipeR]
  have h2 : ∀ a b c d e i j k l m, mLc [11] (mItems (mVar 9)) (tNm 11) (mNot (mTest (mCh leD ltD (mC (.int 1)) (mVar 11) (mFld 0 0 (mVar 0))))) (mVar 11) [some o, a, b, c, d, e, i, j, k, some (.tup (dI ((h.P n).free ++ (h.P n).led))), l, m] mu = some (.ok (.lst (dI (((h.P n).free ++ (h.P n).led).filter fun z => !(decide (1 ≤ z) && decide (z < h.zones))))), mu) := by
    intros
    rw [lc_ev (ds := (h.P n).free ++ (h.P n).led) (f := D.int) (fun z => !(decide (1 ≤ z) && decide (z < h.zones))) D.int ?_ ?_ ?_ ?_]
    · simp
    · simp; omega
    · intro z hz
      by_cases c1 : 1 ≤ z
      · by_cases c2 : z < h.zones <;> simp [wipeR, ho, hF, c1, c2]
      · simp [wipeR, ho, hF, c1]
    · intro z hz _
      simp [wipeR]
  have h5 := o_setI (mu := mu) (l := (h.P n).free ++ (h.P n).led) (by simp; omega)
  have h6 : ∀ l m : List Int, eqD mu (.tup (dI l)) (.tup (dI m)) = some (.bl (decide (l = m))) := fun l m => by rw [o_eqP (pl_tI l) (pl_tI m), same_I]
  have h7 : (((h.P n).free ++ (h.P n).led).filter fun z => !(decide (1 ≤ z) && decide (z < h.zones))).isEmpty = (((h.P n).free ++ (h.P n).led).all fun z => decide (1 ≤ z) && decide (z < h.zones)) := by
    rw [Bool.eq_iff_iff, List.isEmpty_iff, List.filter_eq_nil_iff, List.all_eq_true]
    exact ⟨fun q z hz => by have := q z hz; simpa using this, fun q z hz => by have := q z hz; simpa using this⟩
  have h8 : ((h.P n).free.length + (h.P n).led.length) ≤ 100000 := by omega
  have h9 : ((h.P n).free ++ (h.P n).led).length ≤ 100000 := by simp; omega
  have q1 : (h.P n).free.length < 64 := by omega
  have q2 : (h.P n).led.length < 64 := by omega
  have q3 : dI ((h.P n).free) ++ dI ((h.P n).led) = dI ((h.P n).free ++ (h.P n).led) := by simp [dI]
  have eN := is_name_gen (mu := mu) k.name
  unfold persB
  generalize (h.people.take n).map (·.name) = ls at *
  generalize (h.P n).free ++ (h.P n).led = zz at *
  generalize e7 : (zz.filter fun z => !(decide (1 ≤ z) && decide (z < h.zones))) = fz at *
  generalize e8 : (zz.all fun z => decide (1 ≤ z) && decide (z < h.zones)) = b8 at *
  generalize nameB (h.P n).name = b1 at *
  cases b1 with
  | false => simp [m_House_is_person, ho, hF, Hou.P_of hn, eP, eN]
  | true =>
    by_cases c1 : (h.P n).name ∈ ls
    · simp [m_House_is_person, ho, hF, Hou.P_of hn, eP, eN, h1, c1]
    · have run := fun (b : Bool) => (rfl : b = b)
      by_cases a1 : 0 ≤ (h.P n).beg <;> simp [m_House_is_person, ho, hF, Hou.P_of hn, eP, eN, h1, c1, a1]
      by_cases a2 : (h.P n).beg < h.zones <;> simp [a2]
      by_cases a3 : -1 ≤ (h.P n).goal <;> simp [a3]
      by_cases a4 : (h.P n).goal < h.zones <;> simp [a4]
      by_cases a5 : 0 ≤ (h.P n).most <;> simp [a5]
      by_cases a6 : (h.P n).most ≤ 4 <;> simp [a6]
      by_cases a7 : 0 ≤ (h.P n).since <;> simp [a7]
      by_cases a8 : (h.P n).since ≤ 8 <;> simp [a8]
      have n1 : ¬ h.zones ≤ (h.P n).beg := by omega
      have n2 : ¬ (h.P n).goal < -1 := by omega
      have n3 : ¬ h.zones ≤ (h.P n).goal := by omega
      have n4 : ¬ (h.P n).most < 0 := by omega
      have n5 : ¬ 4 < (h.P n).most := by omega
      have n6 : ¬ (h.P n).since < 0 := by omega
      have n7 : ¬ 8 < (h.P n).since := by omega
      simp [n1, n2, n3, n4, n5, n6, n7, lim_ok, h8, q3, h2, h7, h5, lenSetD, h9]
      cases b8 with
      | false => simp
      | true =>
        by_cases b1 : (sdd zz).length = zz.length
        · by_cases b2 : (h.P n).free = srt (h.P n).free
          · simp [b1, h6, sortI q1, sortI q2, srt_len, ← b2]
          · simp [b1, h6, sortI q1, sortI q2, srt_len, b2]
        · have b1' : ¬ ((sdd zz).length : Int) = (zz.length : Int) := by omega
          simp [b1, b1']
end Eb

/-! Eb: a house is made or refused. -/
namespace Eb
open PySem L2
@[simp] theorem v_raise {c n : Nat} {mr : M (List D)} {rh : Rho} {mu : Mu} : sRaise c n mr rh mu = bindS mr (fun ds rh mu => if ds.length = n then some (.er ⟨c, ds.reverse⟩ rh, mu) else none) rh mu := rfl
theorem must_gen {mu : Mu} {b : Bool} {w n : D} : m_must [.bl b, w, n] mu = some (if b = true then .ok .non else .er ⟨2, [n, w]⟩, mu) := by
  cases b <;> simp [m_must]
theorem seq_er {α : Type} {ds : List α} {f : α → D} {j : Nat} {b rest : MS} {it : M (List D)} {rh : Rho} {mu mu1 : Mu} (I : Rho → Prop) (p : α → Bool) (x : α → Exn) (hi : it rh mu = some (.ok (ds.map f), mu1)) (h0 : I rh)
    (hs : ∀ a ∈ ds, ∀ rh, I rh → (p a = true → ∃ r', b (rh.set j (some (f a))) mu1 = some (.er (x a) r', mu1)) ∧ (p a = false → ∃ r', b (rh.set j (some (f a))) mu1 = some (.nx r', mu1) ∧ I r')) :
    (∃ a, ds.find? p = some a ∧ ∃ r', thenS (sFor it (tNm j) b rh mu) rest = some (.er (x a) r', mu1)) ∨ (ds.find? p = none ∧ ∃ r', I r' ∧ thenS (sFor it (tNm j) b rh mu) rest = rest r' mu1) := by
  have e : sFor it (tNm j) b rh mu = loopS (tNm j) b (ds.map f) rh mu1 := by
    show bindS it (fun ds => loopS (tNm j) b ds) rh mu = _
    rw [bindS_ok hi]
  rw [e]
  clear e hi
  induction ds generalizing rh with
  | nil => exact .inr ⟨rfl, rh, h0, rfl⟩
  | cons a ds ih =>
    obtain ⟨h1, h2⟩ := hs a List.mem_cons_self rh h0
    have un : loopS (tNm j) b ((a :: ds).map f) rh mu1 = (match b (rh.set j (some (f a))) mu1 with
      | some (.nx r, mu1) => loopS (tNm j) b (ds.map f) r mu1
      | some (.ct r, mu1) => loopS (tNm j) b (ds.map f) r mu1
      | some (.bk r, mu1) => some (.nx r, mu1)
      | o => o) := rfl
    cases hp : p a with
    | true =>
      obtain ⟨r', h3⟩ := h1 hp
      exact .inl ⟨a, List.find?_cons_of_pos hp, r', by rw [un, h3]; rfl⟩
    | false =>
      obtain ⟨r', h3, h4⟩ := h2 hp
      rw [List.find?_cons_of_neg (by simp [hp]), un, h3]
      exact ih h4 (fun b hb => hs b (List.mem_cons_of_mem _ hb))
/-- d is that list, by itself or in a cell -/
def Lq (base : Mu) (d : D) (ds : List D) : Prop := d = .lst ds ∨ ∃ k, d = .cel k ∧ base[k]? = some (.lst ds)
section
variable {base : Mu} {d : D} {ds : List D} {c : Cell}
theorem get_app {k : Nat} (h : base[k]? = some c) {c' : Cell} : (base ++ [c'])[k]? = some c := by
  rw [List.getElem?_append_left ((List.getElem?_eq_some_iff.mp h).1)]
  exact h
theorem Lq.len (h : Lq base d ds) : lenD (base ++ [c]) [d] = some (.int ds.length) := by
  rcases h with rfl | ⟨k, rfl, hk⟩
  · rfl
  · simp [lenD, lstOf_c (get_app hk)]
theorem Lq.list (h : Lq base d ds) : listD (base ++ [c]) [d] = some (.lst ds) := by
  rcases h with rfl | ⟨k, rfl, hk⟩
  · rfl
  · simp [listD, copyOf, lstOf_c (get_app hk)]
theorem Lq.ix (h : Lq base d ds) {i : Int} : ixD (base ++ [c]) d (.int i) = atI ds i := by
  rcases h with rfl | ⟨k, rfl, hk⟩
  · rfl
  · rw [o_ixC (get_app hk)]
theorem set_back {mu : Mu} {k : Nat} (h : mu[k]? = some c) {c' : Cell} : (mu.set k c').set k c = mu := by
  apply List.ext_getElem?
  intro j
  by_cases hj : j = k
  · subst hj
    have := (List.getElem?_eq_some_iff.mp h).1
    rw [List.getElem?_set_self (by simpa using this), h]
  · rw [List.getElem?_set_ne (Ne.symm hj), List.getElem?_set_ne (Ne.symm hj)]
theorem Lq.lc {α : Type} {l : List α} {f : α → D} {j i : Nat} {m : ME} {rh : Rho} {g : α → D} (h : Lq base d (l.map f)) (hi : rh[i]? = some (some d)) (hl : l.length ≤ 100000) (hm : ∀ mu, ∀ a ∈ l, m ((wipeR rh [j]).set j (some (f a))) mu = some (.ok (g a), mu)) :
    mLcK [j] (mVar i) (tNm j) mYes m rh (base ++ [c]) = some (.ok (.lst (l.map g)), base ++ [c]) := by
  have hv : ∀ mu, mVar i rh mu = some (.ok d, mu) := fun mu => by simp [hi]
  rcases h with rfl | ⟨k, rfl, hk⟩
  · rw [lcK_l (hv _), lc_ev (ds := l) (f := f) (fun _ => true) g ?_ hl ?_ ?_]
    · rw [fil_true]
    · simp [hi]
    · intro a ha
      simp
    · intro a ha _
      exact hm _ a ha
  · have hk2 := get_app (c' := c) hk
    have L := fun mu => lc_map (c := mYes) (m := m) (rh0 := wipeR rh [j]) (mu := mu) (ds := l) (f := f) (j := j) (fun _ => true) g (fun a _ => by simp) (fun a ha _ => hm mu a ha)
    have kl : k < (base ++ [c]).length := (List.getElem?_eq_some_iff.mp hk2).1
    unfold mLcK
    rw [bindM_ok (hv _)]
    simp only [hk2, L, fil_true]
    rw [few_ok (by simpa using hl)]
    have e : ((base ++ [c]).set k Cell.dead)[k]?.isSome = true := by
      rw [List.getElem?_set_self kl]; rfl
    rw [if_pos e, set_back hk2]
    rfl
end
/-- the first thing by which it is no house -/
def verdict (h : Hou) : Option (Str × Nat) :=
  if ¬ (1 ≤ h.zones ∧ h.zones ≤ 4 ∧ 0 ≤ h.hours ∧ h.hours ≤ 8) then some ("house", 0)
  else if 6 < h.doors.length then some ("doors", 0)
  else if ¬ (1 ≤ h.people.length ∧ h.people.length ≤ 4) then some ("people", 0)
  else match (List.range h.doors.length).find? (fun n => !goodD h.zones (h.Dr n)) with
    | some n => some ("door", n)
    | none => match (List.range h.people.length).find? (fun n => !persB h n) with
      | some n => some ("person", n)
      | none => match h.left (h.people.map (·.beg)) with
        | some n => some ("left", n)
        | none => none
/-- what the making comes to -/
def made (h : Hou) (base : Mu) (o : Option (Rs D × Mu)) : Prop := match verdict h with
  | none => o = some (.ok .non, base ++ [.ins 0 (hF h)])
  | some (w, n) => ∃ mu', o = some (.er ⟨2, [.int (n : Int), .str w]⟩, mu')
theorem init_gen {h : Hou} (B : HouB h) {base : Mu} {dd pp : D} (hd : Lq base dd (h.doors.map dDor)) (hp : Lq base pp (h.people.map dPer)) :
    made h base (m_House_init_01 [.cel base.length, .int h.zones, .int h.hours, dd, pp] (base ++ [.ins 0 []])) := by
  have bd := B.d
  have bp := B.p
  have ld := fun c => hd.len (c := c)
  have lp := fun c => hp.len (c := c)
  have sd := fun c => hd.list (c := c)
  have sp := fun c => hp.list (c := c)
  have xd := fun c (i : Int) => hd.ix (c := c) (i := i)
  by_cases c1 : 1 ≤ h.zones ∧ h.zones ≤ 4 ∧ 0 ≤ h.hours ∧ h.hours ≤ 8
  · obtain ⟨z1, z4, h0, h8⟩ := c1
    by_cases c2 : 6 < h.doors.length
    · have c2' : ¬ (h.doors.length : Int) ≤ 6 := by omega
      unfold made verdict
      simp [z1, z4, h0, h8, c2]
      simp [m_House_init_01, z1, z4, h0, h8, must_gen, ld, c2']
    · have c2' : (h.doors.length : Int) ≤ 6 := by omega
      by_cases p1 : 1 ≤ h.people.length
      · have p1' : (1 : Int) ≤ h.people.length := by omega
        by_cases p4 : h.people.length ≤ 4
        · have p4' : (h.people.length : Int) ≤ 4 := by omega
          have hm : base ++ [Cell.ins 0 [D.int h.zones, .int h.hours, .lst (h.doors.map dDor), .lst (h.people.map dPer)]] = base ++ [.ins 0 (hF h)] := rfl
          have ho : insOf (base ++ [.ins 0 (hF h)]) (.cel base.length) = some (0, hF h) := by simp
          have b2 : h.doors.length ≤ 1000000 := by omega
          have b3 : h.people.length ≤ 1000000 := by omega
          have b4 : h.people.length ≤ 100000 := by omega
          simp [m_House_init_01, z1, z4, h0, h8, must_gen, ld, lp, sd, sp, c2', p1', p4', -v_for, hm]
          rcases seq_er (mu1 := base ++ [.ins 0 (hF h)]) (ds := List.range h.doors.length) (f := fun n => D.int (n : Int)) (j := 5) (b := sDrop (mCall m_must (mCons (mMeth 0 m_House_is_door (mVar 0) (mCons (mOp ixD (mVar 3) (mVar 5)) (mNil))) (mCons (mC (.str "door")) (mCons (mVar 5) (mNil))))))
            (rh := [some (.cel base.length), some (.int h.zones), some (.int h.hours), some dd, some pp, none, none, none]) (mu := base ++ [.ins 0 (hF h)]) (it := mRng1 (mCons (mCB (pureF lenD) (mCons (mVar 3) (mNil))) (mNil)))
            (fun rh => ∃ a, rh = [some (.cel base.length), some (.int h.zones), some (.int h.hours), some dd, some pp, a, none, none]) (fun n => !goodD h.zones (h.Dr n)) (fun n => ⟨2, [.int (n : Int), .str "door"]⟩) (by simp [ld, b2]) ⟨none, rfl⟩ (by
              rintro n hn _ ⟨a, rfl⟩
              have hn := List.mem_range.mp hn
              have e := is_door_gen ho (h.Dr n)
              cases hg : goodD h.zones (h.Dr n) <;> simp [xd, Hou.Dr_of hn, e, hg, must_gen]) with ⟨n, hf, r', e⟩ | ⟨hf, _, ⟨a, rfl⟩, e⟩
          · rw [e]
            unfold made verdict
            simp [z1, z4, h0, h8, c2, p1, p4, hf]
          · rw [e]
            simp only [v_seq]
            rcases seq_er (mu1 := base ++ [.ins 0 (hF h)]) (ds := List.range h.people.length) (f := fun n => D.int (n : Int)) (j := 5) (b := sDrop (mCall m_must (mCons (mMeth 0 m_House_is_person (mVar 0) (mCons (mVar 5) (mNil))) (mCons (mC (.str "person")) (mCons (mVar 5) (mNil))))))
              (rh := [some (.cel base.length), some (.int h.zones), some (.int h.hours), some dd, some pp, a, none, none]) (mu := base ++ [.ins 0 (hF h)]) (it := mRng1 (mCons (mCB (pureF lenD) (mCons (mVar 4) (mNil))) (mNil)))
              (fun rh => ∃ a, rh = [some (.cel base.length), some (.int h.zones), some (.int h.hours), some dd, some pp, a, none, none]) (fun n => !persB h n) (fun n => ⟨2, [.int (n : Int), .str "person"]⟩) (by simp [lp, b3]) ⟨a, rfl⟩ (by
                rintro n hn _ ⟨a, rfl⟩
                have hn := List.mem_range.mp hn
                have e := is_person_gen ho B hn
                cases hg : persB h n <;> simp [e, hg, must_gen]) with ⟨n, hf2, r', e2⟩ | ⟨hf2, _, ⟨a, rfl⟩, e2⟩
            · rw [e2]
              unfold made verdict
              simp [z1, z4, h0, h8, c2, p1, p4, hf, hf2]
            · rw [e2]
              have h1 := hp.lc (c := .ins 0 (hF h)) (l := h.people) (f := dPer) (j := 7) (i := 4) (m := mOp ixD (mVar 7) (mC (.int 1))) (rh := [some (.cel base.length), some (.int h.zones), some (.int h.hours), some dd, some pp, a, none, none]) (g := fun p => .int p.beg) rfl b4 (by
                intro mu p hp
                simp [wipeR])
              have h2 := left_one_ev ho (st := h.people.map (·.beg)) (by simp) (by simp; omega)
              have h3 : (h.people.map fun p => D.int p.beg) = dI (h.people.map (·.beg)) := by rw [dI, List.map_map]; rfl
              rw [h3] at h1
              simp only [v_seq, v_asg, v_bindS, v_call, v_cons, v_cb, v_bindM, h1]
              unfold made verdict
              simp only [z1, z4, h0, h8, c2, p1, p4, hf, hf2, and_self, not_true_eq_false, if_false]
              generalize h.people.map (·.beg) = bs at *
              cases hL : h.left bs with
              | none =>
                rw [hL] at h2
                simp [h1, h2, dO, must_gen]
              | some n =>
                rw [hL] at h2
                simp [h1, h2, dO, must_gen]
        · have p4' : ¬ (h.people.length : Int) ≤ 4 := by omega
          unfold made verdict
          simp [z1, z4, h0, h8, c2, p1, p4]
          simp [m_House_init_01, z1, z4, h0, h8, must_gen, ld, lp, c2', p1', p4']
      · have p1' : ¬ (1 : Int) ≤ h.people.length := by omega
        unfold made verdict
        simp [z1, z4, h0, h8, c2, p1]
        simp [m_House_init_01, z1, z4, h0, h8, must_gen, ld, lp, c2', p1']
  · unfold made verdict
    simp only [if_pos c1]
    by_cases z1 : 1 ≤ h.zones
    · by_cases z4 : h.zones ≤ 4
      · by_cases h0 : 0 ≤ h.hours
        · have h8 : ¬ h.hours ≤ 8 := fun q => c1 ⟨z1, z4, h0, q⟩
          simp [m_House_init_01, z1, z4, h0, h8, must_gen]
        · simp [m_House_init_01, z1, z4, h0, must_gen]
      · simp [m_House_init_01, z1, z4, must_gen]
    · simp [m_House_init_01, z1, must_gen]
end Eb

/-! Eb: what a refusal tells. -/
namespace Eb
open PySem L2
def exO (v : Option (Str × Nat)) (d : D) : Rs D := match v with
  | none => .ok d
  | some (w, n) => .er ⟨2, [.int (n : Int), .str w]⟩
theorem made_gen {h : Hou} (B : HouB h) {mu : Mu} : mPure m_lw_made_01 [dH h] mu = some (exO (verdict h) (.ins 0 (hF h)), mu) := by
  have g := init_gen B (base := []) (dd := .lst (h.doors.map dDor)) (pp := .lst (h.people.map dPer)) (.inl rfl) (.inl rfl)
  unfold made at g
  unfold mPure
  rw [if_pos (by simp)]
  cases hv : verdict h with
  | none =>
    rw [hv] at g
    simp only [List.length_nil, List.nil_append] at g
    simp [m_lw_made_01, mMake, g, exO, cfR]
  | some p =>
    obtain ⟨w, n⟩ := p
    rw [hv] at g
    obtain ⟨mu', g⟩ := g
    simp only [List.length_nil, List.nil_append] at g
    simp [m_lw_made_01, mMake, g, exO, cfR, cfL, cf]
def resD : Option (Str × Nat) → D
  | none => .non
  | some (w, n) => .tup [.str w, .int (n : Int)]
@[simp] theorem v_xf {f : Str} {ma : ME} {rh : Rho} {mu : Mu} : mXf f ma rh mu = bindM ma (fun d => lift fun _ => match d with
  | .exn c fs => if 2 ≤ c ∧ c ≤ 6 then ((fldsT c).zip fs).lookup f else none
  | _ => none) rh mu := rfl
theorem refused_ev {h : Hou} (B : HouB h) {mu : Mu} : mPure m_lw_refused_11 [dH h] mu = some (.ok (resD (verdict h)), mu) := by
  have g := made_gen B (mu := [])
  unfold mPure
  rw [if_pos (by simp)]
  cases hv : verdict h with
  | none =>
    rw [hv] at g
    simp [m_lw_refused_11, sTry, g, exO, resD, cfR, cf]
  | some p =>
    obtain ⟨w, n⟩ := p
    rw [hv] at g
    have l1 : List.lookup ("word" : Str) ((fldsT 2).zip [D.int (n : Int), D.str w]) = some (D.str w) := rfl
    have l2 : List.lookup ("number" : Str) ((fldsT 2).zip [D.int (n : Int), D.str w]) = some (D.int n) := rfl
    have i1 : ∀ mu : Mu, isED mu [.exn 2 [.int (n : Int), .str w], .tup [.cls 3, .cls 6, .cls 4, .cls 5]] = some (.bl false) := fun _ => rfl
    have i2 : ∀ mu : Mu, isED mu [.exn 2 [.int (n : Int), .str w], .cls 2] = some (.bl true) := fun _ => rfl
    have i3 : ∀ mu : Mu, isED mu [.exn 2 [.int (n : Int), .str w], .ty "ValueError"] = some (.bl true) := fun _ => rfl
    have t1 : exT 7 2 = some true := rfl
    simp [m_lw_refused_11, sTry, g, exO, resD, cfR, cf, t1, i1, i2, i3, l1, l2, exOut, xf, xfL]
end Eb

/-! Eb: verdicts. -/
namespace Eb
open PySem L2
theorem NameOk.tx {x : Str} (k : NameOk x) : TxB x := ⟨by have := k.hi; omega, fun c hc => by
  have h2 : ∀ c ∈ letters, c < 0x110000 := by decide +kernel
  exact h2 c (k.az c hc)⟩
theorem HouOk.B {h : Hou} (H : HouOk h) : HouB h := ⟨by have := H.d6; omega, by have := H.p4; omega, fun p hp => by
  have k := H.per p hp
  obtain ⟨f, l⟩ := k.fl H.z4
  exact ⟨k.name.tx, by omega, by omega⟩⟩
theorem goodD_ok {z : Int} {d : Dor} (k : DorOk z d) : goodD z d = true := by
  simp [goodD, k.o0, k.oo, k.oz, k.w1, k.w4, k.p0, k.ps, k.s8]
theorem nameB_ok {x : Str} (k : NameOk x) : nameB x = true := by
  simp only [nameB, Bool.and_eq_true, decide_eq_true_eq, List.all_eq_true]
  exact ⟨⟨k.lo, k.hi⟩, k.az⟩
theorem persB_ok {h : Hou} (H : HouOk h) {n : Nat} (hn : n < h.people.length) : persB h n = true := by
  have e1 := is_person_ev (o := .ins 0 (hF h)) (mu := []) rfl H hn
  have e2 := is_person_gen (o := .ins 0 (hF h)) (mu := []) rfl H.B hn
  rw [e1] at e2
  have e3 := congrArg Prod.fst (Option.some.inj e2)
  exact (D.bl.inj (Rs.ok.inj e3)).symm
/-- what makes somebody bad by themselves -/
def badP (z : Int) (p : Per) : Prop := nameB p.name = false ∨ p.beg < 0 ∨ z ≤ p.beg ∨ p.goal < -1 ∨ z ≤ p.goal ∨ p.most < 0 ∨ 4 < p.most ∨ p.since < 0 ∨ 8 < p.since ∨ (∃ x ∈ p.free ++ p.led, x < 1 ∨ z ≤ x) ∨ (sdd (p.free ++ p.led)).length ≠ (p.free ++ p.led).length ∨ p.free ≠ srt p.free ∨ p.led ≠ srt p.led
theorem persB_bad {h : Hou} {n : Nat} (b : badP h.zones (h.P n)) : persB h n = false := by
  cases e : persB h n with
  | false => rfl
  | true =>
    unfold persB at e
    simp only [Bool.and_eq_true, decide_eq_true_eq, Bool.not_eq_true', decide_eq_false_iff_not, List.all_eq_true] at e
    obtain ⟨⟨⟨⟨⟨⟨⟨⟨⟨e1, e2⟩, e3⟩, e4⟩, e5⟩, e6⟩, e7⟩, e8⟩, e9⟩, e10⟩ := e
    unfold badP at b
    rcases b with b | b | b | b | b | b | b | b | b | ⟨x, hx, b⟩ | b | b | b
    · rw [e1] at b; cases b
    · omega
    · omega
    · omega
    · omega
    · omega
    · omega
    · omega
    · omega
    · have := e7 x hx; omega
    · exact absurd e8 b
    · exact absurd e9 b
    · exact absurd e10 b
theorem persB_twice {h : Hou} {n i : Nat} (hi : i < n) (hn : n < h.people.length) (e : (h.P i).name = (h.P n).name) : persB h n = false := by
  have m : (h.P n).name ∈ (h.people.take n).map (·.name) := by
    rw [← e]
    refine List.mem_map.mpr ⟨h.P i, ?_, rfl⟩
    refine List.mem_of_getElem? (i := i) ?_
    rw [List.getElem?_take_of_lt hi]
    exact Hou.P_of (by omega)
  have e2 : decide ((h.P n).name ∈ (h.people.take n).map (·.name)) = true := decide_eq_true m
  unfold persB
  rw [e2]
  simp
theorem persB_congr {h h' : Hou} {n : Nat} (ez : h'.zones = h.zones) (eP : h'.P n = h.P n) (et : h'.people.take n = h.people.take n) : persB h' n = persB h n := by
  unfold persB
  rw [ez, eP, et]
theorem find_at {p : Nat → Bool} {n k : Nat} (hk : k < n) (h1 : p k = true) (h2 : ∀ i < k, p i = false) : (List.range n).find? p = some k := by
  rw [List.find?_range_eq_some]
  exact ⟨h1, by simpa using hk, fun j hj => by simp [h2 j hj]⟩
theorem find_no {p : Nat → Bool} {n : Nat} (h : ∀ i < n, p i = false) : (List.range n).find? p = none := by
  rw [List.find?_eq_none]
  intro i hi
  simp [h i (List.mem_range.mp hi)]
/-- zones, hours, counts -/
structure CntOk (h : Hou) : Prop where
  z1 : 1 ≤ h.zones
  z4 : h.zones ≤ 4
  h0 : 0 ≤ h.hours
  h8 : h.hours ≤ 8
  d6 : h.doors.length ≤ 6
  p1 : 1 ≤ h.people.length
  p4 : h.people.length ≤ 4
theorem v_house {h : Hou} (c : ¬ (1 ≤ h.zones ∧ h.zones ≤ 4 ∧ 0 ≤ h.hours ∧ h.hours ≤ 8)) : verdict h = some (("house" : Str), 0) := by
  unfold verdict
  rw [if_pos c]
theorem v_doors {h : Hou} (z1 : 1 ≤ h.zones) (z4 : h.zones ≤ 4) (h0 : 0 ≤ h.hours) (h8 : h.hours ≤ 8) (d : 6 < h.doors.length) : verdict h = some (("doors" : Str), 0) := by
  unfold verdict
  rw [if_neg (by simp [z1, z4, h0, h8]), if_pos d]
theorem v_people {h : Hou} (z1 : 1 ≤ h.zones) (z4 : h.zones ≤ 4) (h0 : 0 ≤ h.hours) (h8 : h.hours ≤ 8) (d : h.doors.length ≤ 6) (p : ¬ (1 ≤ h.people.length ∧ h.people.length ≤ 4)) : verdict h = some (("people" : Str), 0) := by
  unfold verdict
  rw [if_neg (by simp [z1, z4, h0, h8]), if_neg (by omega), if_pos p]
theorem v_cnt {h : Hou} (c : CntOk h) : verdict h = match (List.range h.doors.length).find? (fun n => !goodD h.zones (h.Dr n)) with
    | some n => some (("door" : Str), n)
    | none => match (List.range h.people.length).find? (fun n => !persB h n) with
      | some n => some (("person" : Str), n)
      | none => match h.left (h.people.map (·.beg)) with
        | some n => some (("left" : Str), n)
        | none => none := by
  unfold verdict
  rw [if_neg (by simp [c.z1, c.z4, c.h0, c.h8]), if_neg (by have := c.d6; omega), if_neg (by simp [c.p1, c.p4])]
  try rfl
theorem v_door {h : Hou} (c : CntOk h) {k : Nat} (hk : k < h.doors.length) (h1 : goodD h.zones (h.Dr k) = false) (h2 : ∀ i < k, goodD h.zones (h.Dr i) = true) : verdict h = some (("door" : Str), k) := by
  rw [v_cnt c, find_at hk (by simp [h1]) (fun i hi => by simp [h2 i hi])]
theorem v_person {h : Hou} (c : CntOk h) (hd : ∀ i < h.doors.length, goodD h.zones (h.Dr i) = true) {k : Nat} (hk : k < h.people.length) (h1 : persB h k = false) (h2 : ∀ i < k, persB h i = true) : verdict h = some (("person" : Str), k) := by
  rw [v_cnt c, find_no (fun i hi => by simp [hd i hi])]
  simp only
  rw [find_at hk (by simp [h1]) (fun i hi => by simp [h2 i hi])]
theorem v_left {h : Hou} (c : CntOk h) (hd : ∀ i < h.doors.length, goodD h.zones (h.Dr i) = true) (hp : ∀ i < h.people.length, persB h i = true) : verdict h = match h.left (h.people.map (·.beg)) with | some n => some (("left" : Str), n) | none => none := by
  rw [v_cnt c, find_no (fun i hi => by simp [hd i hi])]
  simp only
  rw [find_no (fun i hi => by simp [hp i hi])]
theorem HouOk.cnt {h : Hou} (H : HouOk h) : CntOk h := ⟨H.z1, H.z4, H.h0, H.h8, H.d6, H.p1, H.p4⟩
theorem HouOk.good {h : Hou} (H : HouOk h) {i : Nat} (hi : i < h.doors.length) : goodD h.zones (h.Dr i) = true := goodD_ok (H.dor _ (List.mem_of_getElem? (Hou.Dr_of hi)))
theorem v_good {h : Hou} (H : HouOk h) : verdict h = none := by
  rw [v_left H.cnt (fun i hi => H.good hi) (fun i hi => persB_ok H hi), H.left]
/-! ### bad doors -/
theorem pow6 {mu : Mu} : powD mu (.int 10) (.int 6) = some (.int 1000000) := rfl
theorem dDor_of (a b c d e : Int) : D.tup [.int a, .int b, .int c, .int d, .int e] = dDor ⟨a, b, c, d, e⟩ := rfl
theorem bad_door_ev (ns : List Int) (r : Row) (z : Int) (h1 : 1 ≤ z) : ∃ d r', goodD z d = false ∧ m_lw_bad_door [.cel 0, .int z] [rowD ns r] = some (.ok (dDor d), [rowD ns r']) := by
  have a1 := mod_lt (x := raw ns r) (m := 1000000) (by omega)
  have a2 := mod_lt (x := raw ns (nxt ns r)) (m := 2) (by omega)
  obtain ⟨far, hf, f0⟩ : ∃ f, raw ns r % 1000000 * (raw ns (nxt ns r) % 2) = f ∧ 0 ≤ f := ⟨_, rfl, Int.mul_nonneg a1.1 a2.1⟩
  have sm : smallI (raw ns r % 1000000) = true := by simp [smallI]; omega
  let L : List D := [dDor ⟨0, 0, 1, 0, 8⟩, dDor ⟨-1 - far, 0, 1, 0, 8⟩, dDor ⟨0, z + far, 1, 0, 8⟩, dDor ⟨1, 0, 1, 0, 8⟩, dDor ⟨0, 1, 0, 0, 8⟩, dDor ⟨0, 1, 5 + far, 0, 8⟩, dDor ⟨0, 1, 1, 3, 3⟩, dDor ⟨0, 1, 1, 4, 3⟩, dDor ⟨0, 1, 1, -1 - far, 8⟩, dDor ⟨0, 1, 1, 0, 9 + far⟩]
  have eL : [D.tup [.int 0, .int 0, .int 1, .int 0, .int 8], .tup [.int (-1 - far), .int 0, .int 1, .int 0, .int 8], .tup [.int 0, .int (z + far), .int 1, .int 0, .int 8], .tup [.int 1, .int 0, .int 1, .int 0, .int 8], .tup [.int 0, .int 1, .int 0, .int 0, .int 8], .tup [.int 0, .int 1, .int (5 + far), .int 0, .int 8], .tup [.int 0, .int 1, .int 1, .int 3, .int 3], .tup [.int 0, .int 1, .int 1, .int 4, .int 3], .tup [.int 0, .int 1, .int 1, .int (-1 - far), .int 8], .tup [.int 0, .int 1, .int 1, .int 0, .int (9 + far)]] = L := rfl
  have key : ∃ d, L.getD (raw ns (nxt ns (nxt ns r)) % 10).toNat .non = dDor d ∧ goodD z d = false := by
    have m := getD_mem (l := L) (i := (raw ns (nxt ns (nxt ns r)) % 10).toNat) (d := .non) (by have := mod_lt (x := raw ns (nxt ns (nxt ns r))) (m := 10) (by omega); show _ < 10; omega)
    simp only [L, List.mem_cons, List.not_mem_nil, or_false] at m
    rcases m with m | m | m | m | m | m | m | m | m | m <;> rw [m] <;> refine ⟨_, rfl, ?_⟩ <;> unfold goodD <;> simp <;> omega
  obtain ⟨d, hd, hg⟩ := key
  refine ⟨d, nxt ns (nxt ns (nxt ns r)), hg, ?_⟩
  have at_ : atI L (raw ns (nxt ns (nxt ns r)) % 10) = some (L.getD (raw ns (nxt ns (nxt ns r)) % 10).toNat .non) := atI_mod rfl (by omega)
  rw [hd] at at_
  simp [m_lw_bad_door, pow6, taken_ev, sm, hf, lim_ok, eL, at_]
end Eb

/-! Eb: somebody who is none. -/
namespace Eb
open PySem L2
section
variable {z : Int} {p : Per}
theorem bp_name (h : nameB p.name = false) : badP z p := .inl h
theorem bp_b0 (h : p.beg < 0) : badP z p := .inr (.inl h)
theorem bp_bz (h : z ≤ p.beg) : badP z p := .inr (.inr (.inl h))
theorem bp_g0 (h : p.goal < -1) : badP z p := .inr (.inr (.inr (.inl h)))
theorem bp_gz (h : z ≤ p.goal) : badP z p := .inr (.inr (.inr (.inr (.inl h))))
theorem bp_m0 (h : p.most < 0) : badP z p := .inr (.inr (.inr (.inr (.inr (.inl h)))))
theorem bp_m4 (h : 4 < p.most) : badP z p := .inr (.inr (.inr (.inr (.inr (.inr (.inl h))))))
theorem bp_s0 (h : p.since < 0) : badP z p := .inr (.inr (.inr (.inr (.inr (.inr (.inr (.inl h)))))))
theorem bp_s8 (h : 8 < p.since) : badP z p := .inr (.inr (.inr (.inr (.inr (.inr (.inr (.inr (.inl h))))))))
theorem bp_zs {x : Int} (hx : x ∈ p.free ++ p.led) (h : x < 1 ∨ z ≤ x) : badP z p := .inr (.inr (.inr (.inr (.inr (.inr (.inr (.inr (.inr (.inl ⟨x, hx, h⟩)))))))))
theorem bp_nd (h : (sdd (p.free ++ p.led)).length ≠ (p.free ++ p.led).length) : badP z p := .inr (.inr (.inr (.inr (.inr (.inr (.inr (.inr (.inr (.inr (.inl h))))))))))
theorem bp_fu (h : p.free ≠ srt p.free) : badP z p := .inr (.inr (.inr (.inr (.inr (.inr (.inr (.inr (.inr (.inr (.inr (.inl h)))))))))))
theorem bp_lu (h : p.led ≠ srt p.led) : badP z p := .inr (.inr (.inr (.inr (.inr (.inr (.inr (.inr (.inr (.inr (.inr (.inr h)))))))))))
end
theorem bad_person_ev (ns : List Int) (r : Row) {h : Hou} (H : HouOk h) {n : Nat} (hn : n < h.people.length) : ∃ p r', badP h.zones p ∧ PerB p ∧ m_lw_bad_person [.cel 0, dH h, .int n] [rowD ns r] = some (.ok (dPer p), [rowD ns r']) := by
  have k := H.per _ (Hou.P_mem hn)
  have kb := H.B.per _ (Hou.P_mem hn)
  have z1 := H.z1
  have eP : ∀ u rh, tTp 7 u (dPer (h.P n)) rh = u [.str (h.P n).name, .int (h.P n).beg, .int (h.P n).goal, .int (h.P n).most, .int (h.P n).since, .tup (dI (h.P n).free), .tup (dI (h.P n).led)] rh := fun _ _ => rfl
  have a1 := mod_lt (x := raw ns r) (m := 1000000) (by omega)
  obtain ⟨far, hf, f0⟩ : ∃ f, raw ns r % 1000000 = f ∧ 0 ≤ f := ⟨_, rfl, a1.1⟩
  obtain ⟨bd, hb1, hb2, hb3⟩ : ∃ bd : Str, atI [D.str "", .str "ninesigns", .str "Ab", .str "a1", .str " a"] (raw ns (nxt ns r) % 5) = some (.str bd) ∧ nameB bd = false ∧ TxB bd := by
    have e := atI_mod (l := [D.str "", .str "ninesigns", .str "Ab", .str "a1", .str " a"]) (n := 5) (x := raw ns (nxt ns r)) (d := .non) rfl (by omega)
    have m := getD_mem (l := [D.str "", .str "ninesigns", .str "Ab", .str "a1", .str " a"]) (i := (raw ns (nxt ns r) % 5).toNat) (d := .non) (by have := mod_lt (x := raw ns (nxt ns r)) (m := 5) (by omega); show _ < 5; omega)
    rw [e]
    simp only [List.mem_cons, List.not_mem_nil, or_false] at m
    rcases m with m | m | m | m | m <;> rw [m] <;> exact ⟨_, rfl, by decide +kernel, ⟨by decide +kernel, by decide +kernel⟩⟩
  generalize eq : h.P n = P at *
  generalize ez : h.zones = z at *
  let Ps1 : List Per := [⟨bd, 0, P.goal, P.most, P.since, P.free, P.led⟩, ⟨P.name, -far - 1, P.goal, P.most, P.since, P.free, P.led⟩, ⟨P.name, z + far, P.goal, P.most, P.since, P.free, P.led⟩, ⟨P.name, 0, -2 - far, P.most, P.since, P.free, P.led⟩,
    ⟨P.name, 0, z + far, P.most, P.since, P.free, P.led⟩, ⟨P.name, 0, P.goal, -1 - far, P.since, P.free, P.led⟩, ⟨P.name, 0, P.goal, 5 + far, P.since, P.free, P.led⟩, ⟨P.name, 0, P.goal, P.most, -1 - far, P.free, P.led⟩, ⟨P.name, 0, P.goal, P.most, 9 + far, P.free, P.led⟩,
    ⟨P.name, 0, P.goal, P.most, P.since, [0], []⟩, ⟨P.name, 0, P.goal, P.most, P.since, [], [0]⟩, ⟨P.name, 0, P.goal, P.most, P.since, [z + far], []⟩, ⟨P.name, 0, P.goal, P.most, P.since, [], [-1 - far]⟩, ⟨P.name, 0, P.goal, P.most, P.since, [], [z + far]⟩]
  let Ps2 : List Per := [⟨P.name, 0, P.goal, P.most, P.since, [1], [1]⟩, ⟨P.name, 0, P.goal, P.most, P.since, [1, 1], []⟩]
  let Ps3 : List Per := [⟨P.name, 0, P.goal, P.most, P.since, [2, 1], []⟩, ⟨P.name, 0, P.goal, P.most, P.since, [], [2, 1]⟩]
  have b1 : ∀ p ∈ Ps1, badP z p := by
    intro p hp
    simp only [Ps1, List.mem_cons, List.not_mem_nil, or_false] at hp
    rcases hp with rfl | rfl | rfl | rfl | rfl | rfl | rfl | rfl | rfl | rfl | rfl | rfl | rfl | rfl
    · exact bp_name hb2
    · exact bp_b0 (by show -far - 1 < 0; omega)
    · exact bp_bz (by show z ≤ z + far; omega)
    · exact bp_g0 (by show -2 - far < -1; omega)
    · exact bp_gz (by show z ≤ z + far; omega)
    · exact bp_m0 (by show -1 - far < 0; omega)
    · exact bp_m4 (by show 4 < 5 + far; omega)
    · exact bp_s0 (by show -1 - far < 0; omega)
    · exact bp_s8 (by show 8 < 9 + far; omega)
    · exact bp_zs (x := 0) (by simp) (by omega)
    · exact bp_zs (x := 0) (by simp) (by omega)
    · exact bp_zs (x := z + far) (by simp) (by omega)
    · exact bp_zs (x := -1 - far) (by simp) (by omega)
    · exact bp_zs (x := z + far) (by simp) (by omega)
  have b2 : ∀ p ∈ Ps2, badP z p := by
    intro p hp
    simp only [Ps2, List.mem_cons, List.not_mem_nil, or_false] at hp
    rcases hp with rfl | rfl
    · exact bp_nd (by show (sdd [1, 1]).length ≠ 2; decide +kernel)
    · exact bp_nd (by show (sdd [1, 1]).length ≠ 2; decide +kernel)
  have b3 : ∀ p ∈ Ps3, badP z p := by
    intro p hp
    simp only [Ps3, List.mem_cons, List.not_mem_nil, or_false] at hp
    rcases hp with rfl | rfl
    · exact bp_fu (by show ([2, 1] : List Int) ≠ srt [2, 1]; decide +kernel)
    · exact bp_lu (by show ([2, 1] : List Int) ≠ srt [2, 1]; decide +kernel)
  have kn := kb.name
  have kf := kb.fl
  have kl := kb.ll
  have c1 : ∀ p ∈ Ps1 ++ Ps2 ++ Ps3, PerB p := by
    intro p hp
    simp only [Ps1, Ps2, Ps3, List.mem_append, List.mem_cons, List.not_mem_nil, or_false] at hp
    rcases hp with (((rfl | rfl | rfl | rfl | rfl | rfl | rfl | rfl | rfl | rfl | rfl | rfl | rfl | rfl) | (rfl | rfl)) | (rfl | rfl)) <;> refine ⟨?_, ?_, ?_⟩ <;> first | exact hb3 | exact kn | exact kf | exact kl | (simp; done)
  have pick : ∀ (Ps : List Per) (x : Int), 0 < Ps.length → ∃ p ∈ Ps, atI (Ps.map dPer) (x % (Ps.length : Int)) = some (dPer p) := fun Ps x hl => by
    have e := atI_mod (l := Ps.map dPer) (n := (Ps.length : Int)) (x := x) (d := .non) (by simp) (by omega)
    have m := getD_mem (l := Ps.map dPer) (i := (x % (Ps.length : Int)).toNat) (d := .non) (by have := mod_lt (x := x) (m := (Ps.length : Int)) (by omega); simp; omega)
    obtain ⟨p, hp, q⟩ := List.mem_map.mp m
    exact ⟨p, hp, by rw [e, ← q]⟩
  have n0 : (dH h) = .tup [.int h.zones, .int h.hours, .lst (h.doors.map dDor), .lst (h.people.map dPer)] := rfl
  have hP := Hou.P_of hn
  rw [eq] at hP
  by_cases c2 : 1 < z
  · by_cases c3 : 2 < z
    · obtain ⟨p, hp, e⟩ := pick (Ps1 ++ Ps2 ++ Ps3) (raw ns (nxt ns (nxt ns r))) (by simp [Ps1])
      refine ⟨p, nxt ns (nxt ns (nxt ns r)), ?_, c1 p (hp), ?_⟩
      · rcases List.mem_append.mp hp with hp | hp
        · rcases List.mem_append.mp hp with hp | hp
          · exact b1 p hp
          · exact b2 p hp
        · exact b3 p hp
      · simp [m_lw_bad_person, pow6, taken_ev, hf, hb1, lim_ok, eP, hP, ez, c2, c3]
        show fin (thenB _ (Option.map _ (atI ((Ps1 ++ Ps2 ++ Ps3).map dPer) (raw ns (nxt ns (nxt ns r)) % 18))) _) = _
        have e' : atI ((Ps1 ++ Ps2 ++ Ps3).map dPer) (raw ns (nxt ns (nxt ns r)) % 18) = some (dPer p) := e
        rw [e']
        rfl
    · obtain ⟨p, hp, e⟩ := pick (Ps1 ++ Ps2) (raw ns (nxt ns (nxt ns r))) (by simp [Ps1])
      refine ⟨p, nxt ns (nxt ns (nxt ns r)), ?_, c1 p (List.mem_append_left _ hp), ?_⟩
      · rcases List.mem_append.mp hp with hp | hp
        · exact b1 p hp
        · exact b2 p hp
      · simp [m_lw_bad_person, pow6, taken_ev, hf, hb1, lim_ok, eP, hP, ez, c2, c3]
        show fin (thenB _ (Option.map _ (atI ((Ps1 ++ Ps2).map dPer) (raw ns (nxt ns (nxt ns r)) % 16))) _) = _
        have e' : atI ((Ps1 ++ Ps2).map dPer) (raw ns (nxt ns (nxt ns r)) % 16) = some (dPer p) := e
        rw [e']
        rfl
  · have c3 : ¬ 2 < z := by omega
    obtain ⟨p, hp, e⟩ := pick (Ps1) (raw ns (nxt ns (nxt ns r))) (by simp [Ps1])
    refine ⟨p, nxt ns (nxt ns (nxt ns r)), ?_, c1 p (List.mem_append_left _ (List.mem_append_left _ hp)), ?_⟩
    · exact b1 p hp
    · simp [m_lw_bad_person, pow6, taken_ev, hf, hb1, lim_ok, eP, hP, ez, c2, c3]
      show fin (thenB _ (Option.map _ (atI ((Ps1).map dPer) (raw ns (nxt ns (nxt ns r)) % 14))) _) = _
      have e' : atI ((Ps1).map dPer) (raw ns (nxt ns (nxt ns r)) % 14) = some (dPer p) := e
      rw [e']
      rfl
end Eb

/-! Eb: what is wrong. -/
namespace Eb
open PySem L2
/-- what the law's wrong house is -/
def Wrong (ns : List Int) (r : Row) (h : Hou) : Prop := ∃ (h' : Hou) (w : Str) (k : Nat) (r' : Row) (more : Mu), HouB h' ∧ verdict h' = some (w, k) ∧ m_lw_wrong [.cel 0, dH h] [rowD ns r] = some (.ok (.tup [dH h', .str w, .int (k : Int)]), rowD ns r' :: more)
theorem rep_l {mu : Mu} {d : D} {n : Nat} (h : n ≤ 1000) : mulD mu (.lst [d]) (.int (n : Int)) = some (.lst (List.replicate n d)) := by
  have e : (List.replicate n [d]).flatten = List.replicate n d := by
    clear h
    induction n with
    | zero => rfl
    | succ n ih =>
      rw [List.replicate_succ, List.flatten_cons, ih, List.replicate_succ]
      rfl
  show (if [d].length ≤ 100 ∧ 0 ≤ (n : Int) ∧ (n : Int) ≤ 1000 then some (D.lst (List.replicate (n : Int).toNat [d]).flatten) else none) = _
  rw [if_pos ⟨by simp, by omega, by omega⟩, Int.toNat_natCast, e]
def d9 : Dor := ⟨9, 9, 9, 9, 9⟩
section
variable {ns : List Int} {r : Row} {h : Hou} (H : HouOk h)
include H
theorem wrong0 (hw : raw ns (nxt ns r) % 10 = 0) : Wrong ns r h := by
  have a1 := mod_lt (x := raw ns r) (m := 1000000) (by omega)
  obtain ⟨far, hf, f0⟩ : ∃ f, raw ns r % 1000000 = f ∧ 0 ≤ f := ⟨_, rfl, a1.1⟩
  have eD : ∀ u rh, tTp 4 u (dH h) rh = u [.int h.zones, .int h.hours, .lst (h.doors.map dDor), .lst (h.people.map dPer)] rh := fun _ _ => rfl
  have e7 : ∀ mu : Mu, mulD mu (.lst [.tup [.int 9, .int 9, .int 9, .int 9, .int 9]]) (.int 7) = some (.lst ((List.replicate 7 d9).map dDor)) := fun mu => rep_l (n := 7) (by omega)
  obtain ⟨a, b, hab, e⟩ : ∃ a b, ¬ (1 ≤ a ∧ a ≤ 4 ∧ 0 ≤ b ∧ b ≤ 8) ∧ atI [D.tup [.int (-far), .int h.hours], .tup [.int (5 + far), .int h.hours], .tup [.int h.zones, .int (-1 - far)], .tup [.int h.zones, .int (9 + far)]] (raw ns (nxt ns (nxt ns r)) % 4) = some (.tup [.int a, .int b]) := by
    have e := atI_mod (l := [D.tup [.int (-far), .int h.hours], .tup [.int (5 + far), .int h.hours], .tup [.int h.zones, .int (-1 - far)], .tup [.int h.zones, .int (9 + far)]]) (n := 4) (x := raw ns (nxt ns (nxt ns r))) (d := .non) rfl (by omega)
    have m := getD_mem (l := [D.tup [.int (-far), .int h.hours], .tup [.int (5 + far), .int h.hours], .tup [.int h.zones, .int (-1 - far)], .tup [.int h.zones, .int (9 + far)]]) (i := (raw ns (nxt ns (nxt ns r)) % 4).toNat) (d := .non) (by have := mod_lt (x := raw ns (nxt ns (nxt ns r))) (m := 4) (by omega); show _ < 4; omega)
    rw [e]
    simp only [List.mem_cons, List.not_mem_nil, or_false] at m
    rcases m with m | m | m | m <;> rw [m] <;> refine ⟨_, _, ?_, rfl⟩ <;> omega
  refine ⟨⟨a, b, List.replicate 7 d9, []⟩, "house", 0, nxt ns (nxt ns (nxt ns r)), [], ⟨by simp, by simp, by simp⟩, v_house hab, ?_⟩
  simp [m_lw_wrong, pow6, taken_ev, hf, hw, eD, e7, e, lim_ok, dH, hF]
theorem wrong1 (hw : raw ns (nxt ns r) % 10 = 1) : Wrong ns r h := by
  have eD : ∀ u rh, tTp 4 u (dH h) rh = u [.int h.zones, .int h.hours, .lst (h.doors.map dDor), .lst (h.people.map dPer)] rh := fun _ _ => rfl
  have e7 : ∀ mu : Mu, mulD mu (.lst [.tup [.int 9, .int 9, .int 9, .int 9, .int 9]]) (.int 7) = some (.lst ((List.replicate 7 d9).map dDor)) := fun mu => rep_l (n := 7) (by omega)
  refine ⟨⟨h.zones, h.hours, List.replicate 7 d9, []⟩, "doors", 0, nxt ns (nxt ns r), [], ⟨by simp, by simp, by simp⟩, v_doors H.z1 H.z4 H.h0 H.h8 (by simp), ?_⟩
  simp [m_lw_wrong, pow6, taken_ev, hw, eD, e7, lim_ok, dH, hF]
theorem wrong2 (hw : raw ns (nxt ns r) % 10 = 2) : Wrong ns r h := by
  have eD : ∀ u rh, tTp 4 u (dH h) rh = u [.int h.zones, .int h.hours, .lst (h.doors.map dDor), .lst (h.people.map dPer)] rh := fun _ _ => rfl
  have e9 : D.tup [.int 9, .int 9, .int 9, .int 9, .int 9] = dDor d9 := rfl
  have hP := Hou.P_of (h := h) (n := 0) (by have := H.p1; omega)
  have ec : cutL (h.people.map dPer) none (some 1) = [dPer (h.P 0)] := by
    rw [show ((1 : Int)) = ((1 : Nat) : Int) from rfl, cut_take]
    cases hp : h.people with
    | nil => rw [hp] at hP; cases hP
    | cons p ps =>
      rw [hp] at hP
      have : p = h.P 0 := by simpa using hP
      simp [this]
  have e5 : ∀ mu : Mu, mulD mu (.lst [dPer (h.P 0)]) (.int 5) = some (.lst [dPer (h.P 0), dPer (h.P 0), dPer (h.P 0), dPer (h.P 0), dPer (h.P 0)]) := fun mu => rep_l (n := 5) (by omega)
  obtain ⟨ps, hps, hin, e⟩ : ∃ ps : List Per, ¬ (1 ≤ ps.length ∧ ps.length ≤ 4) ∧ (∀ p ∈ ps, p = h.P 0) ∧ ∃ _ : ps.length ≤ 5, atI [D.lst [], .lst [dPer (h.P 0), dPer (h.P 0), dPer (h.P 0), dPer (h.P 0), dPer (h.P 0)]] (raw ns (nxt ns (nxt ns r)) % 2) = some (.lst (ps.map dPer)) := by
    have := mod_lt (x := raw ns (nxt ns (nxt ns r))) (m := 2) (by omega)
    have c : raw ns (nxt ns (nxt ns r)) % 2 = 0 ∨ raw ns (nxt ns (nxt ns r)) % 2 = 1 := by omega
    rcases c with c | c <;> rw [c]
    · exact ⟨[], by simp, by simp, by simp, rfl⟩
    · exact ⟨List.replicate 5 (h.P 0), by simp, by simp, by simp, rfl⟩
  obtain ⟨l5, e⟩ := e
  have kb := H.B.per _ (Hou.P_mem (h := h) (n := 0) (by have := H.p1; omega))
  refine ⟨⟨h.zones, h.hours, [d9], ps⟩, "people", 0, nxt ns (nxt ns (nxt ns r)), [], ⟨by simp, by show ps.length ≤ 1000; omega, fun p hp => by rw [hin p hp]; exact kb⟩, v_people H.z1 H.z4 H.h0 H.h8 (by simp) hps, ?_⟩
  simp [m_lw_wrong, pow6, taken_ev, hw, eD, lim_ok, ec, e5, e9, e, dH, hF]
end
theorem cut_map {α β : Type} {f : α → β} {l : List α} {lo hi : Option Int} : cutL (l.map f) lo hi = (cutL l lo hi).map f := by
  unfold cutL
  rw [List.map_take, List.map_drop, List.length_map]
theorem cut_from {α : Type} {l : List α} {n : Nat} : cutL l (some (n : Int)) none = l.drop n := by
  unfold cutL
  rw [HT.sIx_nat, HT.sIx_none]
  by_cases h : n ≤ l.length
  · rw [Nat.min_eq_left h, List.take_of_length_le (by simp)]
  · rw [Nat.min_eq_right (by omega), List.drop_of_length_le (Nat.le_refl _), List.drop_of_length_le (by omega)]
    simp
theorem cut_len {α : Type} {l : List α} {n m : Nat} (h : n ≤ l.length) : (cutL l (some (n : Int)) (some (m : Int))).length ≤ m - n := by
  unfold cutL
  rw [HT.sIx_nat, HT.sIx_nat, List.length_take]
  omega
theorem cut_mem {α : Type} {l : List α} {lo hi : Option Int} {a : α} (h : a ∈ cutL l lo hi) : a ∈ l := by
  unfold cutL at h
  exact List.mem_of_mem_drop (List.mem_of_mem_take h)
theorem dr_of {h : Hou} {i : Nat} {d : Dor} (e : h.doors[i]? = some d) : h.Dr i = d := by
  unfold Hou.Dr
  rw [e]
  rfl
theorem p_of {h : Hou} {i : Nat} {p : Per} (e : h.people[i]? = some p) : h.P i = p := by
  unfold Hou.P
  rw [e]
  rfl
theorem get_mid {α : Type} {l r : List α} {x : α} {k i : Nat} (hk : k ≤ l.length) : (i < k → (l.take k ++ [x] ++ r)[i]? = l[i]?) ∧ (l.take k ++ [x] ++ r)[k]? = some x := by
  have hl : (l.take k).length = k := by rw [List.length_take, Nat.min_eq_left hk]
  constructor
  · intro hi
    rw [List.append_assoc, List.getElem?_append_left (by omega), List.getElem?_take_of_lt hi]
  · rw [List.append_assoc, List.getElem?_append_right (by omega), hl, Nat.sub_self]
    rfl
def p0 : Per := ⟨"", 0, 0, 0, 0, [], []⟩
theorem nm_take {l : List Per} {n : Nat} {p : Per} (nd : (l.map (·.name)).Nodup) (hp : l[n]? = some p) : p.name ∉ (l.take n).map (·.name) := by
  intro q
  rw [List.mem_map] at q
  obtain ⟨p', hp', e⟩ := q
  obtain ⟨i, hi, rfl⟩ := List.getElem_of_mem hp'
  rw [List.length_take] at hi
  obtain ⟨hn, e2⟩ := List.getElem?_eq_some_iff.mp hp
  have hin : i < n := by omega
  rw [List.getElem_take] at e
  have q := (List.pairwise_iff_getElem.mp nd) i n (by simp; omega) (by simpa using hn) hin
  rw [List.getElem_map, List.getElem_map] at q
  apply q
  rw [e, e2]
theorem persB_of {h : Hou} {n : Nat} (k : PerOk h.zones (h.P n)) (hn : (h.P n).name ∉ (h.people.take n).map (·.name)) : persB h n = true := by
  have h7 := sdd_len k.nd
  have hz : (((h.P n).free ++ (h.P n).led).all fun z => decide (1 ≤ z) && decide (z < h.zones)) = true := by
    rw [List.all_eq_true]
    intro z hz
    have := k.zs z hz
    simp [this.1, this.2]
  unfold persB
  rw [hz, decide_eq_false hn, decide_eq_true h7, nameB_ok k.name, srt_up k.fu, srt_up k.lu]
  simp [k.b0, k.bz, k.g0, k.gz, k.m0, k.m4, k.s0, k.s8]
theorem left_one_at {h : Hou} {st : List Int} {k : Nat} (hk : k < st.length) (h0 : ∀ i < st.length, i ≠ k → S st i = 0) (h1 : S st k = 1) (hf : (h.P k).isFree 1 = false) : h.left st = some k := by
  refine find_at hk ?_ fun i hi => ?_
  · unfold Hou.leftP
    rw [h1, hf]
    have hall : ∀ n ∈ here st 1, n = k := fun n hn => by
      have hl := here_lt hn
      have hs := (List.mem_filter.mp hn).2
      have hs : S st n = 1 := of_decide_eq_true hs
      by_cases c : n = k
      · exact c
      · rw [h0 n hl c] at hs
        cases hs
    have hmem : k ∈ here st 1 := List.mem_filter.mpr ⟨List.mem_range.mpr hk, decide_eq_true h1⟩
    have hbd : h.bound (here st 1) [1] = here st 1 := by
      rw [bound1, List.filter_eq_self]
      intro n hn
      rw [hall n hn, hf]
      rfl
    have hh : h.hands (here st 1) [1] = 0 := by
      unfold Hou.hands
      rw [hbd]
      have : (here st 1).filter (fun n => !decide (n ∈ here st 1)) = [] := by
        rw [List.filter_eq_nil_iff]
        intro n hn
        simp [hn]
      rw [this]
      rfl
    rw [hbd, hh]
    have p1 : 0 < (here st 1).length := List.length_pos_of_mem hmem
    simp
    exact .inr p1
  · have e : S st i = 0 := h0 i (by omega) (by omega)
    unfold Hou.leftP
    rw [e]
    simp [Per.may, Per.isFree]
section
variable {ns : List Int} {r : Row} {h : Hou} (H : HouOk h)
include H
theorem wrong34 (hw : raw ns (nxt ns r) % 10 = 3 ∨ raw ns (nxt ns r) % 10 = 4) : Wrong ns r h := by
  have d6 := H.d6
  have p1 := H.p1
  have eD : ∀ u rh, tTp 4 u (dH h) rh = u [.int h.zones, .int h.hours, .lst (h.doors.map dDor), .lst (h.people.map dPer)] rh := fun _ _ => rfl
  have m0 : 0 < (if (h.doors.length : Int) < 5 then (h.doors.length : Int) else 5) + 1 := by split <;> omega
  have t0 := fun r rest => taken_ev (ns := ns) (r := r) (rest := rest) m0
  obtain ⟨k, hk, k5, kl⟩ : ∃ k : Nat, raw ns (nxt ns (nxt ns r)) % ((if (h.doors.length : Int) < 5 then (h.doors.length : Int) else 5) + 1) = (k : Int) ∧ k ≤ 5 ∧ k ≤ h.doors.length := by
    have a := mod_lt (x := raw ns (nxt ns (nxt ns r))) m0
    refine ⟨(raw ns (nxt ns (nxt ns r)) % ((if (h.doors.length : Int) < 5 then (h.doors.length : Int) else 5) + 1)).toNat, by omega, ?_, ?_⟩ <;> split at a <;> rename_i q <;> simp only [q, if_true, if_false] <;> omega
  obtain ⟨d, r', hd, ed⟩ := bad_door_ev ns (nxt ns (nxt ns (nxt ns r))) h.zones H.z1
  have ed2 := row_of (mu := []) (by rfl) rfl ed (by simp) rfl
  obtain ⟨wn, hwn, hw34⟩ : ∃ wn : Nat, wn ≤ 1 ∧ raw ns (nxt ns r) % 10 = (wn : Int) + 3 := by
    rcases hw with hw | hw
    · exact ⟨0, by omega, by omega⟩
    · exact ⟨1, by omega, by omega⟩
  have ep : D.tup [.str "", .int 0, .int 0, .int 0, .int 0, .tup [], .tup []] = dPer p0 := rfl
  have em : ∀ mu : Mu, mulD mu (.lst [dPer p0]) (.int (wn : Int)) = some (.lst ((List.replicate wn p0).map dPer)) := fun mu => by
    rw [List.map_replicate]
    exact rep_l (by omega)
  have c1 : cutL (h.people.map dPer) none (some 1) = (h.people.take 1).map dPer := by
    rw [cut_map]
    exact congrArg _ (cut_take (n := 1))
  have c2 : cutL (h.doors.map dDor) none (some (k : Int)) = (h.doors.take k).map dDor := by rw [cut_map, cut_take]
  have c3 : cutL (h.doors.map dDor) (some (k : Int)) (some 5) = (cutL h.doors (some (k : Int)) (some 5)).map dDor := cut_map
  have cl : (cutL h.doors (some (k : Int)) (some 5)).length ≤ 5 - k := cut_len (m := 5) kl
  generalize ecm : cutL h.doors (some (k : Int)) (some 5) = rest at *
  have lt : (h.doors.take k).length = k := by rw [List.length_take, Nat.min_eq_left kl]
  have lp : (h.people.take 1).length = 1 := by rw [List.length_take, Nat.min_eq_left p1]
  let h' : Hou := ⟨h.zones, h.hours, h.doors.take k ++ [d] ++ rest, h.people.take 1 ++ List.replicate wn p0⟩
  have g := fun i => get_mid (r := rest) (x := d) (i := i) kl
  have dk : h'.Dr k = d := dr_of (g 0).2
  have dlen : h'.doors.length = k + 1 + rest.length := by simp [h', lt]; omega
  have plen : h'.people.length = 1 + wn := by simp [h']; omega
  have V : verdict h' = some (("door" : Str), k) := by
    refine v_door (h := h') ⟨H.z1, H.z4, H.h0, H.h8, by rw [dlen]; omega, by rw [plen]; omega, by rw [plen]; omega⟩ (by rw [dlen]; omega) (by rw [dk]; exact hd) fun i hi => ?_
    have : h'.Dr i = h.Dr i := by
      unfold Hou.Dr
      rw [(g i).1 hi]
    rw [this]
    exact H.good (by omega)
  refine ⟨h', "door", k, r', [], ⟨by rw [dlen]; omega, by rw [plen]; omega, fun p hp => ?_⟩, V, ?_⟩
  · rcases List.mem_append.mp hp with hp | hp
    · exact H.B.per p (List.mem_of_mem_take hp)
    · rw [(List.mem_replicate.mp hp).2]
      exact ⟨⟨by decide +kernel, by decide +kernel⟩, by simp [p0], by simp [p0]⟩
  · have b1 : ¬ (wn : Int) + 3 = 0 := by omega
    have b2 : ¬ (wn : Int) + 3 = 1 := by omega
    have b3 : ¬ (wn : Int) + 3 = 2 := by omega
    have b4 : (wn : Int) + 3 < 5 := by omega
    have b5 : (wn : Int) + 3 - 3 = wn := by omega
    have l1 : k + 1 ≤ 100000 := by omega
    have l2 : k + 1 + rest.length ≤ 100000 := by omega
    have l3 : 1 + wn ≤ 100000 := by omega
    have eM : ∀ mu : Mu, minD mu [.int 5, .int (h.doors.length : Int)] = some (.int (if (h.doors.length : Int) < 5 then (h.doors.length : Int) else 5)) := fun _ => rfl
    simp [m_lw_wrong, pow6, taken_ev, eM, hw34, eD, t0, hk, b1, b2, b3, b4, b5, c1, c2, c3, ed2, ep, em, lim_ok, Nat.min_eq_left kl, Nat.min_eq_left p1, l1, l2, l3, dH, hF, h']
theorem wrong567 (hw : 5 ≤ raw ns (nxt ns r) % 10) (hw2 : raw ns (nxt ns r) % 10 < 8) : Wrong ns r h := by
  have p1 := H.p1
  have p4 := H.p4
  have eD : ∀ u rh, tTp 4 u (dH h) rh = u [.int h.zones, .int h.hours, .lst (h.doors.map dDor), .lst (h.people.map dPer)] rh := fun _ _ => rfl
  have m0 : 0 < (h.people.length : Int) := by omega
  have t0 := fun r rest => taken_ev (ns := ns) (r := r) (rest := rest) m0
  obtain ⟨k, hk, kl⟩ : ∃ k : Nat, raw ns (nxt ns (nxt ns r)) % (h.people.length : Int) = (k : Int) ∧ k < h.people.length := by
    have a := mod_lt (x := raw ns (nxt ns (nxt ns r))) m0
    exact ⟨(raw ns (nxt ns (nxt ns r)) % (h.people.length : Int)).toNat, by omega, by omega⟩
  obtain ⟨p, r', hp, kb, ed⟩ := bad_person_ev ns (nxt ns (nxt ns (nxt ns r))) H kl
  have ed2 := row_of (mu := []) (by simp) rfl ed (by simp) rfl
  generalize hx : raw ns (nxt ns r) % 10 = x at *
  have c2 : cutL (h.people.map dPer) none (some (k : Int)) = (h.people.take k).map dPer := by rw [cut_map, cut_take]
  have c3 : cutL (h.people.map dPer) (some ((k : Int) + 1)) none = (h.people.drop (k + 1)).map dPer := by
    rw [cut_map]
    exact congrArg _ (cut_from (n := k + 1))
  have kle : k ≤ h.people.length := by omega
  have lt : (h.people.take k).length = k := by rw [List.length_take, Nat.min_eq_left kle]
  let h' : Hou := ⟨h.zones, h.hours, h.doors, h.people.take k ++ [p] ++ h.people.drop (k + 1)⟩
  have g := fun i => get_mid (r := h.people.drop (k + 1)) (x := p) (i := i) kle
  have dk : h'.P k = p := p_of (g 0).2
  have plen : h'.people.length = h.people.length := by simp [h']; omega
  have V : verdict h' = some (("person" : Str), k) := by
    refine v_person (h := h') ⟨H.z1, H.z4, H.h0, H.h8, H.d6, by rw [plen]; omega, by rw [plen]; omega⟩ (fun i hi => H.good hi) (by rw [plen]; omega) (persB_bad (by rw [dk]; exact hp)) fun i hi => ?_
    have e1 : h'.P i = h.P i := by
      unfold Hou.P
      rw [(g i).1 hi]
    have e2 : h'.people.take i = h.people.take i := by
      show (h.people.take k ++ [p] ++ h.people.drop (k + 1)).take i = _
      rw [List.append_assoc, List.take_append_of_le_length (by omega), List.take_take, Nat.min_eq_left (by omega)]
    rw [persB_congr (h := h) (h' := h') rfl e1 e2]
    exact persB_ok H (by omega)
  refine ⟨h', "person", k, r', [], ⟨by have := H.d6; show h.doors.length ≤ 1000; omega, by rw [plen]; omega, fun q hq => ?_⟩, V, ?_⟩
  · rcases List.mem_append.mp hq with hq | hq
    · rcases List.mem_append.mp hq with hq | hq
      · exact H.B.per q (List.mem_of_mem_take hq)
      · rw [List.mem_singleton.mp hq]; exact kb
    · exact H.B.per q (List.mem_of_mem_drop hq)
  · have b1 : ¬ x = 0 := by omega
    have b2 : ¬ x = 1 := by omega
    have b3 : ¬ x = 2 := by omega
    have b4 : ¬ x < 5 := by omega
    have l1 : k + 1 ≤ 100000 := by omega
    have l2 : k + 1 + (h.people.length - (k + 1)) ≤ 100000 := by omega
    simp [m_lw_wrong, pow6, taken_ev, hx, hw2, eD, t0, hk, b1, b2, b3, b4, c2, c3, ed2, lim_ok, Nat.min_eq_left kle, l1, l2]
    simp [dH, hF, h']
theorem wrong8 (hw : raw ns (nxt ns r) % 10 = 8) (h3 : h.people.length < 4) : Wrong ns r h := by
  have p1 := H.p1
  have eD : ∀ u rh, tTp 4 u (dH h) rh = u [.int h.zones, .int h.hours, .lst (h.doors.map dDor), .lst (h.people.map dPer)] rh := fun _ _ => rfl
  have m0 : 0 < (h.people.length : Int) := by omega
  have t0 := fun r rest => taken_ev (ns := ns) (r := r) (rest := rest) m0
  obtain ⟨k, hk, kl⟩ : ∃ k : Nat, raw ns (nxt ns (nxt ns r)) % (h.people.length : Int) = (k : Int) ∧ k < h.people.length := by
    have a := mod_lt (x := raw ns (nxt ns (nxt ns r))) m0
    exact ⟨(raw ns (nxt ns (nxt ns r)) % (h.people.length : Int)).toNat, by omega, by omega⟩
  let h' : Hou := ⟨h.zones, h.hours, h.doors, h.people ++ [h.P k]⟩
  have plen : h'.people.length = h.people.length + 1 := by simp [h']
  have eP : ∀ i < h.people.length, h'.P i = h.P i := fun i hi => by
    unfold Hou.P
    show ((h.people ++ [h.P k])[i]?).getD _ = _
    rw [List.getElem?_append_left hi]
  have eN : h'.P h.people.length = h.P k := p_of (by
    show (h.people ++ [h.P k])[h.people.length]? = _
    rw [List.getElem?_append_right (Nat.le_refl _), Nat.sub_self]
    rfl)
  have V : verdict h' = some (("person" : Str), h.people.length) := by
    refine v_person (h := h') ⟨H.z1, H.z4, H.h0, H.h8, H.d6, by rw [plen]; omega, by rw [plen]; omega⟩ (fun i hi => H.good hi) (by rw [plen]; omega) (persB_twice (i := k) kl (by rw [plen]; omega) (by rw [eP k kl, eN])) fun i hi => ?_
    have e2 : h'.people.take i = h.people.take i := by
      show (h.people ++ [h.P k]).take i = _
      rw [List.take_append_of_le_length (by omega)]
    rw [persB_congr (h := h) (h' := h') rfl (eP i hi) e2]
    exact persB_ok H hi
  refine ⟨h', "person", h.people.length, nxt ns (nxt ns (nxt ns r)), [], ⟨by have := H.d6; show h.doors.length ≤ 1000; omega, by rw [plen]; omega, fun q hq => ?_⟩, V, ?_⟩
  · rcases List.mem_append.mp hq with hq | hq
    · exact H.B.per q hq
    · rw [List.mem_singleton.mp hq]
      exact H.B.per _ (Hou.P_mem kl)
  · have l1 : h.people.length + 1 ≤ 100000 := by omega
    have l3 : (h.people.length : Int) < 4 := by omega
    simp [m_lw_wrong, pow6, taken_ev, hw, eD, t0, hk, Hou.P_of kl, lim_ok, l1, l3, dH, hF, h']
theorem wrong89 (hw : 8 ≤ raw ns (nxt ns r) % 10) (h3 : raw ns (nxt ns r) % 10 = 8 → 4 ≤ h.people.length) : Wrong ns r h := by
  have p1 := H.p1
  have p4 := H.p4
  have z1 := H.z1
  have eD : ∀ u rh, tTp 4 u (dH h) rh = u [.int h.zones, .int h.hours, .lst (h.doors.map dDor), .lst (h.people.map dPer)] rh := fun _ _ => rfl
  have m0 : 0 < (h.people.length : Int) := by omega
  have t0 := fun r rest => taken_ev (ns := ns) (r := r) (rest := rest) m0
  obtain ⟨k, hk, kl⟩ : ∃ k : Nat, raw ns (nxt ns (nxt ns r)) % (h.people.length : Int) = (k : Int) ∧ k < h.people.length := by
    have a := mod_lt (x := raw ns (nxt ns (nxt ns r))) m0
    exact ⟨(raw ns (nxt ns (nxt ns r)) % (h.people.length : Int)).toNat, by omega, by omega⟩
  have x10 := mod_lt (x := raw ns (nxt ns r)) (m := 10) (by omega)
  generalize hx : raw ns (nxt ns r) % 10 = x at *
  have b1 : ¬ x = 0 := by omega
  have b2 : ¬ x = 1 := by omega
  have b3 : ¬ x = 2 := by omega
  have b4 : ¬ x < 5 := by omega
  have b5 : ¬ x < 8 := by omega
  have e3 : ∀ a b c d e f g : D, cutL [a, b, c, d, e, f, g] none (some 1) = [a] := fun _ _ _ _ _ _ _ => rfl
  have e5 : ∀ a b c d e f g : D, cutL [a, b, c, d, e, f, g] (some 2) none = [c, d, e, f, g] := fun _ _ _ _ _ _ _ => rfl
  have hlc : ∀ (mu : Mu) (a b c d e f g i j : Option D), mLcC [12] (mItems (mVar 5)) (tNm 12) mYes (mOp addD (mOp addD (mSl (mVar 12) (mNoP) (mPart (mC (.int 1)))) (mTup (mCons (mC (.int 0)) (mNil)))) (mSl (mVar 12) (mPart (mC (.int 2))) (mNoP))) [a, b, c, d, e, some (.lst (h.people.map dPer)), f, g, i, j, none, none, none] mu = some (.ok (.cel mu.length), mu ++ [.lst ((h.people.map fun p => p.from 0).map dPer)]) := by
    intros mu a b c d e f g i j
    unfold mLcC
    rw [bindM_ok (a := h.people.map dPer) (mu1 := mu) (by simp)]
    rw [lc_map (fun _ => true) (fun p => dPer (p.from 0)) (fun a _ => by simp) (fun a _ _ => by simp [wipeR, dPer, e3, e5, lim_ok, Per.from])]
    simp only [fil_true]
    rw [few_ok (by simp; omega), List.map_map]
    rfl
  by_cases cz : h.zones = 1
  · refine ⟨⟨0, h.hours, h.doors, h.people⟩, "house", 0, nxt ns (nxt ns (nxt ns r)), [.lst ((h.people.map fun p => p.from 0).map dPer)], ⟨H.B.d, H.B.p, H.B.per⟩, v_house (by simp), ?_⟩
    have c8 : ¬ (x = 8 ∧ (h.people.length : Int) < 4) := fun q => by have := h3 q.1; omega
    generalize (h.people.map fun p => p.from 0) = Q at *
    by_cases c : x = 8
    · have c4 : ¬ (h.people.length : Int) < 4 := by have := h3 c; omega
      subst c
      simp [m_lw_wrong, pow6, taken_ev, hx, eD, t0, hk, c4, hlc, cz]
      simp [dH, hF]
    · simp [m_lw_wrong, pow6, taken_ev, hx, eD, t0, hk, b1, b2, b3, b4, b5, c, hlc, cz]
      simp [dH, hF]
  · have z2 : 2 ≤ h.zones := by omega
    have kP := H.per _ (Hou.P_mem kl)
    let q : Per := if x = 9 then ⟨(h.P k).name, 1, -1, 4, 0, [], []⟩ else ⟨(h.P k).name, 1, -1, 0, 0, [], [1]⟩
    have qn : q.name = (h.P k).name := by show (if x = 9 then _ else _ : Per).name = _; split <;> rfl
    have qb : q.beg = 1 := by show (if x = 9 then _ else _ : Per).beg = _; split <;> rfl
    have qf : q.isFree 1 = false := by show (if x = 9 then _ else _ : Per).isFree 1 = _; split <;> rfl
    have qk : PerOk h.zones q := by
      show PerOk h.zones (if x = 9 then _ else _ : Per)
      split
      · exact { name := kP.name, b0 := by simp, bz := by show (1 : Int) < _; omega, g0 := by simp, gz := by show (-1 : Int) < _; omega, m0 := by simp, m4 := by simp, s0 := by simp, s8 := by simp, zs := by simp, nd := by simp, fu := by simp, lu := by simp }
      · exact { name := kP.name, b0 := by simp, bz := by show (1 : Int) < _; omega, g0 := by simp, gz := by show (-1 : Int) < _; omega, m0 := by simp, m4 := by simp, s0 := by simp, s8 := by simp, zs := by simp; omega, nd := by simp, fu := by simp, lu := by simp }
    obtain ⟨Q, hQ⟩ : ∃ Q, Q = h.people.map fun p => p.from 0 := ⟨_, rfl⟩
    have Ql : Q.length = h.people.length := by rw [hQ, List.length_map]
    have Qi : ∀ i < h.people.length, Q[i]? = some ((h.P i).from 0) := fun i hi => by rw [hQ, List.getElem?_map, Hou.P_of hi]; rfl
    let h' : Hou := ⟨h.zones, h.hours, h.doors, Q.set k q⟩
    have plen : h'.people.length = h.people.length := by show (Q.set k q).length = _; rw [List.length_set, Ql]
    have Pk : h'.P k = q := p_of (by show (Q.set k q)[k]? = _; rw [List.getElem?_set_self (by omega)])
    have Pi : ∀ i < h.people.length, i ≠ k → h'.P i = (h.P i).from 0 := fun i hi ne => p_of (by show (Q.set k q)[i]? = _; rw [List.getElem?_set_ne (Ne.symm ne)]; exact Qi i hi)
    have nms : h'.people.map (·.name) = h.people.map (·.name) := by
      apply List.ext_getElem?
      intro i
      rw [List.getElem?_map, List.getElem?_map]
      by_cases hi : i < h.people.length
      · rw [Hou.P_of hi]
        show (Q.set k q)[i]?.map _ = _
        by_cases hik : i = k
        · subst hik
          rw [List.getElem?_set_self (by omega)]
          exact congrArg some qn
        · rw [List.getElem?_set_ne (Ne.symm hik), Qi i hi]
          rfl
      · rw [List.getElem?_eq_none (by omega), List.getElem?_eq_none (by omega)]
    have okP : ∀ i < h'.people.length, persB h' i = true := fun i hi => by
      rw [plen] at hi
      have kk := H.per _ (Hou.P_mem hi)
      refine persB_of ?_ (nm_take (by rw [nms]; exact H.nms) (Hou.P_of (by rw [plen]; exact hi)))
      by_cases hik : i = k
      · subst hik
        rw [Pk]
        exact qk
      · rw [Pi i hi hik]
        exact { name := kk.name, b0 := by simp [Per.from], bz := by show (0 : Int) < h.zones; omega, g0 := kk.g0, gz := kk.gz, m0 := kk.m0, m4 := kk.m4, s0 := kk.s0, s8 := kk.s8, zs := kk.zs, nd := kk.nd, fu := kk.fu, lu := kk.lu }
    have Sb : ∀ i < h.people.length, S (h'.people.map (·.beg)) i = (h'.P i).beg := fun i hi => by
      show ((h'.people.map (·.beg))[i]?).getD 0 = _
      rw [List.getElem?_map, Hou.P_of (by rw [plen]; exact hi)]
      rfl
    have V : verdict h' = some (("left" : Str), k) := by
      rw [v_left (h := h') ⟨H.z1, H.z4, H.h0, H.h8, H.d6, by rw [plen]; omega, by rw [plen]; omega⟩ (fun i hi => H.good hi) okP]
      rw [left_one_at (k := k) (by simp; rw [plen]; exact kl) (fun i hi ne => ?_) (by rw [Sb k kl, Pk, qb]) (by rw [Pk]; exact qf)]
      have hi : i < h.people.length := by simpa [plen] using hi
      rw [Sb i hi, Pi i hi ne]
      rfl
    refine ⟨h', "left", k, nxt ns (nxt ns (nxt ns r)), [.dead], ⟨H.B.d, by rw [plen]; exact H.B.p, fun p hp => ?_⟩, V, ?_⟩
    · obtain ⟨i, hi, rfl⟩ := List.getElem_of_mem hp
      have hi2 : i < h.people.length := by rw [← plen]; exact hi
      have e : h'.people[i] = h'.P i := by
        have := Hou.P_of (h := h') hi
        rw [List.getElem?_eq_getElem hi] at this
        exact Option.some.inj this
      rw [e]
      by_cases hik : i = k
      · subst hik
        rw [Pk]
        exact ⟨by rw [qn]; exact kP.name.tx, by show (if x = 9 then _ else _ : Per).free.length ≤ 30; split <;> simp, by show (if x = 9 then _ else _ : Per).led.length ≤ 30; split <;> simp⟩
      · rw [Pi i hi2 hik]
        have kb := H.B.per _ (Hou.P_mem hi2)
        exact ⟨kb.name, kb.fl, kb.ll⟩
    · rw [← hQ] at hlc
      have ea : atI (Q.map dPer) (k : Int) = some (dPer ((h.P k).from 0)) := by
        rw [atI_nat, List.getElem?_map, Qi k kl]
        rfl
      have ein : ixN (Q.map dPer).length (k : Int) = some k := ixN_lit (by simp; omega)
      have kQ : k < (Q.map dPer).length := by simp; omega
      have e0 : ∀ mu : Mu, ixD mu (dPer ((h.P k).from 0)) (.int 0) = some (.str (h.P k).name) := fun _ => rfl
      have e0' : ∀ (mu : Mu) (u : Per), ixD mu (dPer u) (.int 0) = some (.str u.name) := fun _ _ => rfl
      have en : ((h.P k).from 0).name = (h.P k).name := rfl
      obtain ⟨L, hL⟩ : ∃ L, L = Q.map dPer := ⟨_, rfl⟩
      have eR : ∀ u : Per, (L.set k (dPer u)) = (Q.set k u).map dPer := fun u => by rw [hL, List.map_set]
      rw [← hL] at hlc ea ein kQ
      have es : ∀ v, (L.set k v)[k]? = some v := fun v => List.getElem?_set_self kQ
      have r0 : D.tup [.str (h.P k).name, .int 1, .int (-1), .int 0, .int 0, .tup [], .tup [.int 1]] = dPer ⟨(h.P k).name, 1, -1, 0, 0, [], [1]⟩ := rfl
      have r1 : D.tup [.str (h.P k).name, .int 1, .int (-1), .int 4, .int 0, .tup [], .tup []] = dPer ⟨(h.P k).name, 1, -1, 4, 0, [], []⟩ := rfl
      by_cases c : x = 8
      · have c4 : ¬ (h.people.length : Int) < 4 := by have := h3 c; omega
        have hq : q = ⟨(h.P k).name, 1, -1, 0, 0, [], [1]⟩ := if_neg (by omega)
        subst c
        simp [m_lw_wrong, pow6, taken_ev, hx, eD, t0, hk, c4, hlc, cz, ea, ein, e0, r0, r1]
        show _ = D.tup [.int h.zones, .int h.hours, .lst (h.doors.map dDor), .lst ((Q.set k q).map dPer)]
        rw [hq, List.map_set, ← hL]
      · have c9 : x = 9 := by omega
        have hq : q = ⟨(h.P k).name, 1, -1, 4, 0, [], []⟩ := if_pos c9
        subst c9
        simp [m_lw_wrong, pow6, taken_ev, hx, eD, t0, hk, hlc, cz, ea, ein, e0', en, es, r0, r1]
        show _ = D.tup [.int h.zones, .int h.hours, .lst (h.doors.map dDor), .lst ((Q.set k q).map dPer)]
        rw [hq, List.map_set, ← hL]
theorem wrong_ev : Wrong ns r h := by
  have x10 := mod_lt (x := raw ns (nxt ns r)) (m := 10) (by omega)
  by_cases c0 : raw ns (nxt ns r) % 10 = 0
  · exact wrong0 H c0
  by_cases c1 : raw ns (nxt ns r) % 10 = 1
  · exact wrong1 H c1
  by_cases c2 : raw ns (nxt ns r) % 10 = 2
  · exact wrong2 H c2
  by_cases c3 : raw ns (nxt ns r) % 10 = 3 ∨ raw ns (nxt ns r) % 10 = 4
  · exact wrong34 H c3
  by_cases c5 : raw ns (nxt ns r) % 10 < 8
  · exact wrong567 H (by omega) c5
  by_cases c8 : raw ns (nxt ns r) % 10 = 8 ∧ h.people.length < 4
  · exact wrong8 H c8.1 c8.2
  · exact wrong89 H (by omega) (fun q => by
      by_cases c : h.people.length < 4
      · exact absurd ⟨q, c⟩ c8
      · omega)
end
end Eb

/-! Eb: the law. -/
namespace Eb
open PySem L2
/-- the greatest house -/
def hGreat : Hou := ⟨4, 8, [⟨0, 3, 4, 0, 8⟩, ⟨2, 3, 1, 7, 8⟩, ⟨0, 1, 1, 0, 1⟩, ⟨0, 3, 4, 0, 8⟩, ⟨2, 3, 1, 7, 8⟩, ⟨0, 1, 1, 0, 1⟩], [⟨"abcdefgh", 3, -1, 4, 8, [1, 2, 3], []⟩, ⟨"b", 0, 3, 0, 0, [], [1, 2, 3]⟩, ⟨"c", 3, 0, 4, 8, [], [3]⟩, ⟨"d", 2, 2, 0, 8, [2], [1, 3]⟩]⟩
def hSmall : Hou := ⟨1, 0, [], [⟨"a", 0, 0, 0, 0, [], []⟩]⟩
theorem great_B : HouB hGreat := ⟨by decide, by decide, fun p hp => by
  simp only [hGreat, List.mem_cons, List.not_mem_nil, or_false] at hp
  rcases hp with rfl | rfl | rfl | rfl <;> exact ⟨⟨by decide +kernel, by decide +kernel⟩, by decide, by decide⟩⟩
theorem small_B : HouB hSmall := ⟨by decide, by decide, fun p hp => by
  simp only [hSmall, List.mem_cons, List.not_mem_nil, or_false] at hp
  rcases hp with rfl
  exact ⟨⟨by decide +kernel, by decide +kernel⟩, by decide, by decide⟩⟩
theorem great_v : verdict hGreat = none := by decide +kernel
theorem small_v : verdict hSmall = none := by decide +kernel
theorem pyD_c {mu : Mu} {k n : Nat} {ds : List D} (h : mu[k]? = some (.lst ds)) : pyD mu (n + 1) (.cel k) = pyD mu (n + 1) (.lst ds) := by
  show (match mu[k]? with | some (.lst ds) => (allM (pyD mu n) ds).map PyData.list | _ => none) = _
  rw [h]
  rfl
theorem ne_cells {mu : Mu} {a b : Nat} {xs ys : List D} {y : D} (h1 : mu[a]? = some (.lst xs)) (h2 : mu[b]? = some (.lst ys)) : neD mu (.lst [.cel a, .cel b]) y = neD mu (.lst [.lst xs, .lst ys]) y := by
  have : pyD mu 12 (.lst [.cel a, .cel b]) = pyD mu 12 (.lst [.lst xs, .lst ys]) := by
    show (allM (pyD mu 11) [.cel a, .cel b]).map PyData.list = (allM (pyD mu 11) [.lst xs, .lst ys]).map PyData.list
    unfold allM
    rw [pyD_c (n := 10) h1]
    unfold allM
    rw [pyD_c (n := 10) h2]
  unfold neD eqB
  rw [this]
theorem verdict_w {h : Hou} {w : Str} {k : Nat} (v : verdict h = some (w, k)) : pl 11 (.str w) = true := by
  unfold verdict at v
  split at v
  · cases v; decide +kernel
  · split at v
    · cases v; decide +kernel
    · split at v
      · cases v; decide +kernel
      · split at v
        · cases v; decide +kernel
        · split at v
          · cases v; decide +kernel
          · split at v
            · cases v; decide +kernel
            · cases v
theorem doorsC_ev {mu : Mu} {h : Hou} : m_House_doorsC [.ins 0 (hF h)] mu = some (.ok (.cel mu.length), mu ++ [.lst (h.doors.map dDor)]) := by
  simp [m_House_doorsC, hF]
theorem peopleC_ev {mu : Mu} {h : Hou} : m_House_peopleC [.ins 0 (hF h)] mu = some (.ok (.cel mu.length), mu ++ [.lst (h.people.map dPer)]) := by
  simp [m_House_peopleC, hF]
theorem doorsF_ev {mu : Mu} {h : Hou} : mPure (mFz m_House_doorsC) [.ins 0 (hF h)] mu = some (.ok (.lst (h.doors.map dDor)), mu) := by
  refine pure_of (mu' := [.dead]) (by simp) ?_ (by simpa using cfL_map (f := dDor) (fun _ => rfl) h.doors)
  simp [mFz, doorsC_ev]
theorem peopleF_ev {mu : Mu} {h : Hou} : mPure (mFz m_House_peopleC) [.ins 0 (hF h)] mu = some (.ok (.lst (h.people.map dPer)), mu) := by
  refine pure_of (mu' := [.dead]) (by simp) ?_ (by simpa using cfL_map (f := dPer) (fun p => by simp [dPer]) h.people)
  simp [mFz, peopleC_ev]
@[simp] theorem v_clear {k : Nat} {mu : Mu} : clearF (.cel k) [] mu = (match mu[k]? with | some (.lst _) => some (.non, mu.set k (.lst [])) | _ => none) := rfl
theorem law_true (ns : List Int) (hl : ns.length ≤ 63) : ∃ mu', m_law_11 [.scr ns] [] = some (.ok (.bl true), mu') := by
  have er : Cell.lst [D.scr ns, .int 0, .int 0] = rowD ns ⟨0, 0⟩ := rfl
  obtain ⟨h, H, r1, more, e1⟩ := house_ev ns ⟨0, 0⟩
  have e2 := row_of (mu := []) rfl rfl e1 (by simp) rfl
  have B := H.B
  have V := v_good H
  have g := init_gen B (base := [rowD ns r1, .lst (h.doors.map dDor), .lst (h.people.map dPer)]) (dd := .cel 1) (pp := .cel 2) (.inr ⟨1, rfl, rfl⟩) (.inr ⟨2, rfl, rfl⟩)
  unfold made at g
  rw [V] at g
  have g : m_House_init_01 [.cel 3, .int h.zones, .int h.hours, .cel 1, .cel 2] [rowD ns r1, .lst (h.doors.map dDor), .lst (h.people.map dPer), .ins 0 []] = some (.ok .non, [rowD ns r1, .lst (h.doors.map dDor), .lst (h.people.map dPer), .ins 0 (hF h)]) := g
  have f0 : ixD [rowD ns r1] (dH h) (.int 2) = some (.lst (h.doors.map dDor)) := rfl
  have n1 : neD [rowD ns r1, .lst (h.doors.map dDor), .lst (h.people.map dPer), .dead] (.lst [.cel 1, .cel 2]) (.lst [.lst (h.doors.map dDor), .lst (h.people.map dPer)]) = some (.bl false) := by
    rw [ne_cells (xs := h.doors.map dDor) (ys := h.people.map dPer) rfl rfl]
    refine neSame ?_
    have a : pl 11 (.lst (h.doors.map dDor)) = true := by
      show (h.doors.map dDor).all (pl 10) = true
      rw [List.all_map, List.all_eq_true]
      exact fun d _ => pl_D d 8
    have b : pl 11 (.lst (h.people.map dPer)) = true := by
      show (h.people.map dPer).all (pl 10) = true
      rw [List.all_map, List.all_eq_true]
      exact fun d hd => pl_P (H.per d hd) 7
    show ([D.lst (h.doors.map dDor), .lst (h.people.map dPer)].all (pl 11)) = true
    simp only [List.all_cons, List.all_nil, a, b, Bool.and_true]
  simp [m_law_11, er, e2, mMake, g, n1, -v_for]
  have q1 := fun mu : Mu => neSame (mu := mu) (pl_doors h.doors)
  have q2 := fun mu : Mu => neSame (mu := mu) (pl_people H)
  have f2 : ∀ mu : Mu, ixD mu (dH h) (.int 2) = some (.lst (h.doors.map dDor)) := fun _ => rfl
  have f3 : ∀ mu : Mu, ixD mu (dH h) (.int 3) = some (.lst (h.people.map dPer)) := fun _ => rfl
  have dl : h.doors.length < 100000 := by have := B.d; omega
  have r2 : rng1 [.int 2] = some ((List.range 2).map fun (n : Nat) => .int (n : Int)) := r_1 (n := 2) (by omega)
  refine seq_inv (mu1 := [rowD ns r1, .lst (h.doors.map dDor), .lst (h.people.map dPer), .dead]) (ds := List.range 2) (f := fun n => D.int (n : Int)) (fun i rh mu => (∃ l1 l2 ex, mu = rowD ns r1 :: .lst l1 :: .lst l2 :: ex) ∧ ∃ x, rh = [some (.scr ns), some (.cel 0), some (dH h), some (.lst [.cel 1, .cel 2]), some (.ins 0 (hF h)), x, none, none, none, none, none]) (by simp [r2]) ⟨⟨_, _, _, rfl⟩, _, rfl⟩ ?_ (fun o => ∃ mu', fin o = some (Rs.ok (D.bl true), mu')) ?_
  · rintro i a ha _ _ ⟨⟨l1, l2, ex, rfl⟩, x, rfl⟩
    simp [doorsF_ev, peopleF_ev, doorsC_ev, peopleC_ev, q1, q2, f2, f3, dl]
    exact ⟨_, _, ⟨rfl, rfl⟩, ⟨_, _, _, rfl⟩, _, rfl⟩
  · rintro _ _ ⟨⟨l1, l2, ex, rfl⟩, x, rfl⟩
    obtain ⟨h', w, k, r', more', B', V', e3⟩ := wrong_ev (ns := ns) (r := r1) H
    have e4 := row_of (mu := .lst l1 :: .lst l2 :: ex) (by simp) rfl e3 (by simp) rfl
    have e5 := fun mu : Mu => refused_ev B' (mu := mu)
    rw [V'] at e5
    have q3 : ∀ mu : Mu, neD mu (.tup [.str w, .int (k : Int)]) (.tup [.str w, .int (k : Int)]) = some (.bl false) := fun mu => neSame (by
      show ([D.str w, .int (k : Int)].all (pl 11)) = true
      have := verdict_w V'
      simp only [List.all_cons, List.all_nil, this, Bool.and_true]
      rfl)
    have eG : ∀ mu : Mu, mPure m_lw_refused_11 [D.tup [.int 4, .int 8, .lst [.tup [.int 0, .int 3, .int 4, .int 0, .int 8], .tup [.int 2, .int 3, .int 1, .int 7, .int 8], .tup [.int 0, .int 1, .int 1, .int 0, .int 1], .tup [.int 0, .int 3, .int 4, .int 0, .int 8], .tup [.int 2, .int 3, .int 1, .int 7, .int 8], .tup [.int 0, .int 1, .int 1, .int 0, .int 1]],
        .lst [.tup [.str "abcdefgh", .int 3, .int (-1), .int 4, .int 8, .tup [.int 1, .int 2, .int 3], .tup []], .tup [.str "b", .int 0, .int 3, .int 0, .int 0, .tup [], .tup [.int 1, .int 2, .int 3]], .tup [.str "c", .int 3, .int 0, .int 4, .int 8, .tup [], .tup [.int 3]], .tup [.str "d", .int 2, .int 2, .int 0, .int 8, .tup [.int 2], .tup [.int 1, .int 3]]]]] mu = some (.ok .non, mu) := fun mu => by
      have e := refused_ev great_B (mu := mu)
      rw [great_v] at e
      exact e
    have eS : ∀ mu : Mu, mPure m_lw_refused_11 [D.tup [.int 1, .int 0, .lst [], .lst [.tup [.str "a", .int 0, .int 0, .int 0, .int 0, .tup [], .tup []]]]] mu = some (.ok .non, mu) := fun mu => by
      have e := refused_ev small_B (mu := mu)
      rw [small_v] at e
      exact e
    have m2 : ∀ (mu : Mu) (a b c : D), mulD mu (.lst [a, b, c]) (.int 2) = some (.lst [a, b, c, a, b, c]) := fun _ _ _ _ => rfl
    have nn : nonB .non = true := rfl
    simp [e4, e5, resD, q3, m2, eG, eS, nn]
end Eb

/-! Eb: the defs of the text of escortbook_k11_houses_refused: each computes what its meaning says. Printed by gen.py. -/
namespace Eb
open PySem L2
def top (i : Nat) : Stmt := PySem.Challenge.pw_escortbook_k11_houses_refused.main.body.getD i (.Pass ⟨0, 0, 0, 0⟩)
abbrev st_lw_taken : Stmt := top 30
abbrev st_lw_names : Stmt := top 31
abbrev st_lw_person : Stmt := top 32
abbrev st_lw_free : Stmt := top 34
abbrev st_lw_left : Stmt := top 35
abbrev st_lw_house : Stmt := top 33
abbrev st_BadHouse_init : Stmt := inClass (top 2) 0
abbrev st_must : Stmt := top 26
abbrev st_is_free : Stmt := top 11
abbrev st_may_be : Stmt := top 12
abbrev st_led_ones : Stmt := top 13
abbrev st_can_lead : Stmt := top 14
abbrev st_left_one : Stmt := top 15
abbrev st_House_is_door : Stmt := inClass (top 28) 1
abbrev st_is_name : Stmt := top 27
abbrev st_House_is_person : Stmt := inClass (top 28) 2
abbrev st_House_init : Stmt := inClass (top 28) 0
abbrev st_lw_bad_door : Stmt := top 39
abbrev st_lw_bad_person : Stmt := top 38
abbrev st_lw_wrong : Stmt := top 40
abbrev st_lw_made : Stmt := top 36
abbrev st_lw_refused : Stmt := top 37
abbrev st_House_doors : Stmt := inClass (top 28) 3
abbrev st_House_people : Stmt := inClass (top 28) 4
abbrev st_law : Stmt := top 41
structure Tx (K : PySem.W.Frag) (mg : Str → Option Value) (cls : Nat → Addr) : Prop where
  d_lw_taken : DefAt K mg "_law_taken" st_lw_taken ["_law_row", "_law_many"]
  d_lw_names : DefAt K mg "_law_names" st_lw_names ["_law_row"]
  d_lw_person : DefAt K mg "_law_person" st_lw_person ["_law_row", "_law_name", "_law_zones"]
  d_lw_free : DefAt K mg "_law_free" st_lw_free ["_law_house_here", "_law_person_here", "_law_zone"]
  d_lw_left : DefAt K mg "_law_left" st_lw_left ["_law_house_here", "_law_state"]
  d_lw_house : DefAt K mg "_law_house" st_lw_house ["_law_row"]
  d_BadHouse_init : EIAt K (cls 2) "BadHouse.__init__" st_BadHouse_init ["self", "word", "number"] (fldsT 2)
  d_must : DefAt K mg "must" st_must ["good", "word", "number"]
  d_is_free : DefAt K mg "is_free" st_is_free ["house", "person", "zone"]
  d_may_be : DefAt K mg "may_be" st_may_be ["house", "person", "zone"]
  d_led_ones : DefAt K mg "led_ones" st_led_ones ["house", "persons", "zones"]
  d_can_lead : DefAt K mg "can_lead" st_can_lead ["house", "persons", "zones"]
  d_left_one : DefAt K mg "left_one" st_left_one ["house", "state"]
  d_House_is_door : MethAt K (cls 0) "is_door" "House.is_door" st_House_is_door ["self", "door"]
  d_is_name : DefAt K mg "is_name" st_is_name ["text"]
  d_House_is_person : MethAt K (cls 0) "is_person" "House.is_person" st_House_is_person ["self", "number"]
  d_House_init : InitAt K (cls 0) "House.__init__" st_House_init ["self", "zones", "hours", "doors", "people"]
  d_lw_bad_door : DefAt K mg "_law_bad_door" st_lw_bad_door ["_law_row", "_law_zones"]
  d_lw_bad_person : DefAt K mg "_law_bad_person" st_lw_bad_person ["_law_row", "_law_house_here", "_law_at"]
  d_lw_wrong : DefAt K mg "_law_wrong" st_lw_wrong ["_law_row", "_law_house_here"]
  d_lw_made : DefAt K mg "_law_made" st_lw_made ["_law_house_here"]
  d_lw_refused : DefAt K mg "_law_refused" st_lw_refused ["_law_house_here"]
  d_House_doors : MethAt K (cls 0) "doors" "House.doors" st_House_doors ["self"]
  d_House_people : MethAt K (cls 0) "people" "House.people" st_House_people ["self"]
  bi : BaseI K (cls 7)
  c0 : ClsT K (cls 0) (fldsT 0)
  exa : ExcA K cls
  g_BEGIN : GInt mg "BEGIN" 1
  g_FREE : GInt mg "FREE" 5
  g_LED : GInt mg "LED" 6
  g_LETTERS : GStr mg "LETTERS" "abcdefghijklmnopqrstuvwxyz"
  g_LONGEST_NAME : GInt mg "LONGEST_NAME" 8
  g_MOST : GInt mg "MOST" 3
  g_MOST_DOORS : GInt mg "MOST_DOORS" 6
  g_MOST_HOURS : GInt mg "MOST_HOURS" 8
  g_MOST_PEOPLE : GInt mg "MOST_PEOPLE" 4
  g_MOST_WIDE : GInt mg "MOST_WIDE" 4
  g_MOST_ZONES : GInt mg "MOST_ZONES" 4
  g_NAME : GInt mg "NAME" 0
  k_BadHouse : mg "BadHouse" = some (.ref (cls 2))
  k_BadStep : mg "BadStep" = some (.ref (cls 3))
  k_BadText : mg "BadText" = some (.ref (cls 6))
  k_Barred : mg "Barred" = some (.ref (cls 4))
  k_BookError : mg "BookError" = some (.ref (cls 7))
  k_House : mg "House" = some (.ref (cls 0))
  k_Left : mg "Left" = some (.ref (cls 5))
  n_ValueError : mg "ValueError" = none
  n_int : mg "int" = none
  n_isinstance : mg "isinstance" = none
  n_len : mg "len" = none
  n_list : mg "list" = none
  n_min : mg "min" = none
  n_range : mg "range" = none
  n_set : mg "set" = none
  n_sorted : mg "sorted" = none
  n_sum : mg "sum" = none
  n_tuple : mg "tuple" = none
section
variable {P : Program} {w : World} {K : PySem.W.Frag} {mg : Str → Option Value} {base : Heap} {cls : Nat → Addr}
theorem sc_lw_taken : FnScope ["_law_row", "_law_many", "_law_cell"] ["_law_row", "_law_many"] (defScope st_lw_taken) := ⟨rfl, rfl, rfl, by decide +kernel, rfl, by decide +kernel, by decide +kernel⟩
theorem ok_lw_taken (T : Tx K mg cls)  : Cal P w K mg base cls "_law_taken" 1 ["_law_row", "_law_many"] m_lw_taken := by
  obtain ⟨f, fd, g, k, F, b⟩ := T.d_lw_taken.ex
  refine ⟨f, fd, g, k, b, okM F sc_lw_taken rfl rfl (by decide) fun cdv A outer s H E hr => ?_⟩
  have sc := sc_lw_taken
  exact pms_cons (pm_put (pm_var 0) (pm_int) (pm_op (om_add rfl) (pm_ix rfl (pm_var 0) (pm_int)) (pm_int))) (pms_cons (pms_if (pmt_cmp om_gt (pm_ix rfl (pm_var 0) (pm_int)) (pm_callB (cm_len rfl) T.n_len bt_len (pma_cons (pm_ix rfl (pm_var 0) (pm_int)) (pma_nil))) (nomark _)) (pms_cons (pm_put (pm_var 0) (pm_int) (pm_op (om_mod) (pm_op (om_add rfl) (pm_op (om_mul rfl) (pm_ix rfl (pm_var 0) (pm_int)) (pm_int)) (pm_int)) (pm_int))) (pms_one (pm_ret (pm_op (om_mod) (pm_op (om_fdiv) (pm_ix rfl (pm_var 0) (pm_int)) (pm_int)) (pm_var 1))))) (pms_nil)) (pms_cons (pm_set (i := 2) sc.nd rfl (by first | exact Or.inl rfl | exact Or.inr rfl) (pm_ix rfl (pm_ix rfl (pm_var 0) (pm_int)) (pm_op (om_sub) (pm_ix rfl (pm_var 0) (pm_int)) (pm_int)))) (pms_cons (pm_put (pm_var 0) (pm_int) (pm_op (om_mod) (pm_op (om_add rfl) (pm_op (om_add rfl) (pm_op (om_mul rfl) (pm_ix rfl (pm_var 0) (pm_int)) (pm_int)) (pm_var 2)) (pm_int)) (pm_int))) (pms_one (pm_ret (pm_op (om_mod) (pm_var 2) (pm_var 1)))))))
theorem sc_lw_names : FnScope ["_law_row", "_law_turn", "_law_shift", "_law_signs", "_law_base", "_law_k"] ["_law_row"] (defScope st_lw_names) := ⟨rfl, rfl, rfl, by decide +kernel, rfl, by decide +kernel, by decide +kernel⟩
theorem ok_lw_names (T : Tx K mg cls) (c1 : Cal P w K mg base cls "_law_taken" 1 ["_law_row", "_law_many"] m_lw_taken) : Cal P w K mg base cls "_law_names" 2 ["_law_row"] m_lw_names := by
  obtain ⟨f1, fd1, g1, k1, b1, G1⟩ := c1.ex
  obtain ⟨f, fd, g, k, F, b⟩ := T.d_lw_names.ex
  refine ⟨f, fd, g, k, b, okM F sc_lw_names rfl rfl (by decide) fun cdv A outer s H E hr => ?_⟩
  have sc := sc_lw_names
  have h1 := hr.mono (show 1 ≤ 1 by decide)
  exact pms_cons (pm_set (i := 1) sc.nd rfl (by first | exact Or.inl rfl | exact Or.inr rfl) (pm_call G1 h1 g1 k1 b1 (fun σ => passAt (takes_of rfl rfl rfl rfl) σ) (pma_cons (pm_var 0) (pma_cons (pm_int) (pma_nil))))) (pms_cons (pm_set (i := 2) sc.nd rfl (by first | exact Or.inl rfl | exact Or.inr rfl) (pm_call G1 h1 g1 k1 b1 (fun σ => passAt (takes_of rfl rfl rfl rfl) σ) (pma_cons (pm_var 0) (pma_cons (pm_int) (pma_nil))))) (pms_cons (pm_set (i := 3) sc.nd rfl (by first | exact Or.inl rfl | exact Or.inr rfl) (pm_lc (own := [("_law_k", 5)]) (G := gName 5) rfl sc.nd (pmi_rng1 T.n_range (pma_cons (pm_int) (pma_nil))) (blkOk_by (N := ["_law_row", "_law_turn", "_law_shift", "_law_signs", "_law_base", "_law_k"]) (sc := defScope st_lw_names) (by decide +kernel)) (tgLc_name (by decide)) (fun _ _ _ _ _ => pg_name (i := 5) sc.nd rfl (by first | exact Or.inl rfl | exact Or.inr rfl)) (fun _ _ _ _ _ => pmts_nil) (fun _ _ _ _ _ => pm_ix rfl (pm_str) (pm_op (om_mod) (pm_op (om_add rfl) (pm_var 1) (pm_op (om_mul rfl) (pm_int) (pm_var 5))) (pm_int))))) (pms_cons (pm_set (i := 4) sc.nd rfl (by first | exact Or.inl rfl | exact Or.inr rfl) (pm_bm rfl (ms_join rfl) PySem.F.plainAttrs_str PySem.F.slot_str_join PySem.F.type_str_join (pm_str) (pma_cons (pm_slice rfl (pm_var 3) (pmo_some (pm_int)) (pmo_none)) (pma_nil)))) (pms_one (pm_ret (pm_lc (own := [("_law_k", 5)]) (G := gName 5) rfl sc.nd (pmi_rng1 T.n_range (pma_cons (pm_int) (pma_nil))) (blkOk_by (N := ["_law_row", "_law_turn", "_law_shift", "_law_signs", "_law_base", "_law_k"]) (sc := defScope st_lw_names) (by decide +kernel)) (tgLc_name (by decide)) (fun _ _ _ _ _ => pg_name (i := 5) sc.nd rfl (by first | exact Or.inl rfl | exact Or.inr rfl)) (fun _ _ _ _ _ => pmts_nil) (fun _ _ _ _ _ => pm_op (om_add rfl) (pm_slice rfl (pm_var 4) (pmo_none) (pmo_some (pm_op (om_mod) (pm_op (om_add rfl) (pm_var 2) (pm_op (om_mul rfl) (pm_int) (pm_var 5))) (pm_int)))) (pm_ix rfl (pm_var 3) (pm_var 5)))))))))
theorem sc_lw_person : FnScope ["_law_row", "_law_name", "_law_zones", "_law_free_here", "_law_led", "_law_zone", "_law_way", "_law_most", "_law_since", "_law_goal"] ["_law_row", "_law_name", "_law_zones"] (defScope st_lw_person) := ⟨rfl, rfl, rfl, by decide +kernel, rfl, by decide +kernel, by decide +kernel⟩
theorem ok_lw_person (T : Tx K mg cls) (c1 : Cal P w K mg base cls "_law_taken" 1 ["_law_row", "_law_many"] m_lw_taken) : Cal P w K mg base cls "_law_person" 2 ["_law_row", "_law_name", "_law_zones"] m_lw_person := by
  obtain ⟨f1, fd1, g1, k1, b1, G1⟩ := c1.ex
  obtain ⟨f, fd, g, k, F, b⟩ := T.d_lw_person.ex
  refine ⟨f, fd, g, k, b, okM F sc_lw_person rfl rfl (by decide) fun cdv A outer s H E hr => ?_⟩
  have sc := sc_lw_person
  have h1 := hr.mono (show 1 ≤ 1 by decide)
  exact pms_cons (pm_set (i := 3) sc.nd rfl (by first | exact Or.inl rfl | exact Or.inr rfl) (pm_lstC (pma_nil))) (pms_cons (pm_set (i := 4) sc.nd rfl (by first | exact Or.inl rfl | exact Or.inr rfl) (pm_lstC (pma_nil))) (pms_cons (pms_for (passes_of rfl) rfl (pmi_rng2 T.n_range (pma_cons (pm_int) (pma_cons (pm_var 2) (pma_nil)))) (pmg_name (i := 5) sc.nd rfl (by first | exact Or.inl rfl | exact Or.inr rfl)) (pms_cons (pm_set (i := 6) sc.nd rfl (by first | exact Or.inl rfl | exact Or.inr rfl) (pm_call G1 h1 g1 k1 b1 (fun σ => passAt (takes_of rfl rfl rfl rfl) σ) (pma_cons (pm_var 0) (pma_cons (pm_int) (pma_nil))))) (pms_one (pms_if (pmt_cmp om_lt (pm_var 6) (pm_int) (nomark _)) (pms_one (pm_expr (pm_bm rfl ms_append PySem.F.plainAttrs_list PySem.F.slot_list_append PySem.F.type_list_append (pm_var 3) (pma_cons (pm_var 5) (pma_nil))))) (pms_one (pms_if (pmt_cmp om_lt (pm_var 6) (pm_int) (nomark _)) (pms_one (pm_expr (pm_bm rfl ms_append PySem.F.plainAttrs_list PySem.F.slot_list_append PySem.F.type_list_append (pm_var 4) (pma_cons (pm_var 5) (pma_nil))))) (pms_nil))))))) (pms_frz 3 (pms_frz 4 (pms_cons (pm_set (i := 7) sc.nd rfl (by first | exact Or.inl rfl | exact Or.inr rfl) (pm_ix rfl (pm_lst (pma_cons (pm_int) (pma_cons (pm_int) (pma_cons (pm_int) (pma_cons (pm_int) (pma_cons (pm_call G1 h1 g1 k1 b1 (fun σ => passAt (takes_of rfl rfl rfl rfl) σ) (pma_cons (pm_var 0) (pma_cons (pm_int) (pma_nil)))) (pma_nil))))))) (pm_call G1 h1 g1 k1 b1 (fun σ => passAt (takes_of rfl rfl rfl rfl) σ) (pma_cons (pm_var 0) (pma_cons (pm_int) (pma_nil)))))) (pms_cons (pm_set (i := 8) sc.nd rfl (by first | exact Or.inl rfl | exact Or.inr rfl) (pm_ix rfl (pm_lst (pma_cons (pm_int) (pma_cons (pm_int) (pma_cons (pm_int) (pma_cons (pm_call G1 h1 g1 k1 b1 (fun σ => passAt (takes_of rfl rfl rfl rfl) σ) (pma_cons (pm_var 0) (pma_cons (pm_int) (pma_nil)))) (pma_nil)))))) (pm_call G1 h1 g1 k1 b1 (fun σ => passAt (takes_of rfl rfl rfl rfl) σ) (pma_cons (pm_var 0) (pma_cons (pm_int) (pma_nil)))))) (pms_cons (pm_set (i := 9) sc.nd rfl (by first | exact Or.inl rfl | exact Or.inr rfl) (pm_ix rfl (pm_lst (pma_cons (pm_op (om_sub) (pm_var 2) (pm_int)) (pma_cons (pm_op (om_sub) (pm_var 2) (pm_int)) (pma_cons (pm_op (om_sub) (pm_call G1 h1 g1 k1 b1 (fun σ => passAt (takes_of rfl rfl rfl rfl) σ) (pma_cons (pm_var 0) (pma_cons (pm_op (om_add rfl) (pm_var 2) (pm_int)) (pma_nil)))) (pm_int)) (pma_nil))))) (pm_call G1 h1 g1 k1 b1 (fun σ => passAt (takes_of rfl rfl rfl rfl) σ) (pma_cons (pm_var 0) (pma_cons (pm_int) (pma_nil)))))) (pms_one (pm_ret (pm_tup (pma_cons (pm_var 1) (pma_cons (pm_int) (pma_cons (pm_var 9) (pma_cons (pm_var 7) (pma_cons (pm_var 8) (pma_cons (pm_callTy (cm_tuple rfl) T.n_tuple bt_tuple (pma_cons (pm_var 3) (pma_nil))) (pma_cons (pm_callTy (cm_tuple rfl) T.n_tuple bt_tuple (pma_cons (pm_var 4) (pma_nil))) (pma_nil))))))))))))))))))
theorem sc_lw_free : FnScope ["_law_house_here", "_law_person_here", "_law_zone"] ["_law_house_here", "_law_person_here", "_law_zone"] (defScope st_lw_free) := ⟨rfl, rfl, rfl, by decide +kernel, rfl, by decide +kernel, by decide +kernel⟩
theorem ok_lw_free (T : Tx K mg cls)  : Cal P w K mg base cls "_law_free" 1 ["_law_house_here", "_law_person_here", "_law_zone"] m_lw_free := by
  obtain ⟨f, fd, g, k, F, b⟩ := T.d_lw_free.ex
  refine ⟨f, fd, g, k, b, okM F sc_lw_free rfl rfl (by decide) fun cdv A outer s H E hr => ?_⟩
  have sc := sc_lw_free
  exact pms_one (pm_ret (pm_or (pm_cmp (om_eq rfl hr.units) (pm_var 2) (pm_int) (nomark _)) (pm_one (pm_cmp (om_in rfl) (pm_var 2) (pm_ix rfl (pm_ix rfl (pm_ix rfl (pm_var 0) (pm_int)) (pm_var 1)) (pm_int)) (by with_unfolding_all rfl)))))
theorem sc_lw_left : FnScope ["_law_house_here", "_law_state", "_law_person_here", "_law_zone", "_law_here", "_law_bound", "_law_hands", "_law_k"] ["_law_house_here", "_law_state"] (defScope st_lw_left) := ⟨rfl, rfl, rfl, by decide +kernel, rfl, by decide +kernel, by decide +kernel⟩
theorem ok_lw_left (T : Tx K mg cls) (c1 : Cal P w K mg base cls "_law_free" 1 ["_law_house_here", "_law_person_here", "_law_zone"] m_lw_free) : Cal P w K mg base cls "_law_left" 2 ["_law_house_here", "_law_state"] m_lw_left := by
  obtain ⟨f1, fd1, g1, k1, b1, G1⟩ := c1.pure.ex
  obtain ⟨f, fd, g, k, F, b⟩ := T.d_lw_left.ex
  refine ⟨f, fd, g, k, b, okM F sc_lw_left rfl rfl (by decide) fun cdv A outer s H E hr => ?_⟩
  have sc := sc_lw_left
  have h1 := hr.mono (show 1 ≤ 1 by decide)
  exact pms_cons (pms_for (passes_of rfl) rfl (pmi_rng1 T.n_range (pma_cons (pm_callB (cm_len rfl) T.n_len bt_len (pma_cons (pm_var 1) (pma_nil))) (pma_nil))) (pmg_name (i := 2) sc.nd rfl (by first | exact Or.inl rfl | exact Or.inr rfl)) (pms_cons (pm_set (i := 3) sc.nd rfl (by first | exact Or.inl rfl | exact Or.inr rfl) (pm_ix rfl (pm_var 1) (pm_var 2))) (pms_one (pms_if (pmt_not (pmt_val (pm_call G1 h1 g1 k1 b1 (fun σ => passAt (takes_of rfl rfl rfl rfl) σ) (pma_cons (pm_var 0) (pma_cons (pm_var 2) (pma_cons (pm_var 3) (pma_nil))))))) (pms_cons (pm_setLc (i := 4) rfl sc.nd rfl rfl (sw_true rfl rfl rfl (by decide +kernel)) (own := [("_law_k", 7)]) (G := gName 7) (pmi_rng1 T.n_range (pma_cons (pm_callB (cm_len rfl) T.n_len bt_len (pma_cons (pm_var 1) (pma_nil))) (pma_nil))) (blkOk_by (N := ["_law_house_here", "_law_state", "_law_person_here", "_law_zone", "_law_here", "_law_bound", "_law_hands", "_law_k"]) (sc := defScope st_lw_left) (by decide +kernel)) (tgLc_name (by decide)) (fun _ _ _ _ _ => pg_name (i := 7) sc.nd rfl (by first | exact Or.inl rfl | exact Or.inr rfl)) (fun _ _ _ _ _ => pmts_one (pmt_cmp (om_eq rfl hr.units) (pm_ix rfl (pm_var 1) (pm_var 7)) (pm_var 3) (nomark _))) (fun _ _ _ _ _ => pm_var 7)) (pms_cons (pm_set (i := 5) sc.nd rfl (by first | exact Or.inl rfl | exact Or.inr rfl) (pm_lc (own := [("_law_k", 7)]) (G := gName 7) rfl sc.nd (pmi_items rfl (pm_var 4)) (blkOk_by (N := ["_law_house_here", "_law_state", "_law_person_here", "_law_zone", "_law_here", "_law_bound", "_law_hands", "_law_k"]) (sc := defScope st_lw_left) (by decide +kernel)) (tgLc_name (by decide)) (fun _ _ _ _ _ => pg_name (i := 7) sc.nd rfl (by first | exact Or.inl rfl | exact Or.inr rfl)) (fun _ _ _ _ _ => pmts_one (pmt_not (pmt_val (pm_call G1 h1 g1 k1 b1 (fun σ => passAt takes0 σ) (pma_cons (pm_var 0) (pma_cons (pm_var 7) (pma_cons (pm_var 3) (pma_nil)))))))) (fun _ _ _ _ _ => pm_var 7))) (pms_cons (pm_set (i := 6) sc.nd rfl (by first | exact Or.inl rfl | exact Or.inr rfl) (pm_callB (cm_sum rfl rfl) T.n_sum bt_sum (pma_cons (pm_lc (own := [("_law_k", 7)]) (G := gName 7) rfl sc.nd (pmi_items rfl (pm_var 4)) (blkOk_by (N := ["_law_house_here", "_law_state", "_law_person_here", "_law_zone", "_law_here", "_law_bound", "_law_hands", "_law_k"]) (sc := defScope st_lw_left) (by decide +kernel)) (tgLc_name (by decide)) (fun _ _ _ _ _ => pg_name (i := 7) sc.nd rfl (by first | exact Or.inl rfl | exact Or.inr rfl)) (fun _ _ _ _ _ => pmts_one (pmt_cmp (om_notin rfl) (pm_var 7) (pm_var 5) (by with_unfolding_all rfl))) (fun _ _ _ _ _ => pm_ix rfl (pm_ix rfl (pm_ix rfl (pm_var 0) (pm_int)) (pm_var 7)) (pm_int))) (pma_nil)))) (pms_one (pms_if (pmt_bool (pmt_or (pmt_cmp (om_notin rfl) (pm_var 3) (pm_ix rfl (pm_ix rfl (pm_ix rfl (pm_var 0) (pm_int)) (pm_var 2)) (pm_int)) (by with_unfolding_all rfl)) (pmt_or1 (pmt_cmp om_gt (pm_callB (cm_len rfl) T.n_len bt_len (pma_cons (pm_var 5) (pma_nil))) (pm_var 6) (nomark _))))) (pms_one (pm_ret (pm_var 2))) (pms_nil)))))) (pms_nil))))) (pms_one (pm_ret (pm_non)))
theorem sc_lw_house : FnScope ["_law_row", "_law_zones", "_law_doors", "_law_k", "_law_one", "_law_other", "_law_opens", "_law_shuts", "_law_names_here", "_law_many", "_law_people", "_law_hours", "_law_house_here", "_law_state", "_law_person_here"] ["_law_row"] (defScope st_lw_house) := ⟨rfl, rfl, rfl, by decide +kernel, rfl, by decide +kernel, by decide +kernel⟩
theorem ok_lw_house (T : Tx K mg cls) (c1 : Cal P w K mg base cls "_law_taken" 1 ["_law_row", "_law_many"] m_lw_taken) (c2 : Cal P w K mg base cls "_law_names" 2 ["_law_row"] m_lw_names) (c3 : Cal P w K mg base cls "_law_person" 2 ["_law_row", "_law_name", "_law_zones"] m_lw_person) (c4 : Cal P w K mg base cls "_law_left" 2 ["_law_house_here", "_law_state"] m_lw_left) : Cal P w K mg base cls "_law_house" 3 ["_law_row"] m_lw_house := by
  obtain ⟨f1, fd1, g1, k1, b1, G1⟩ := c1.ex
  obtain ⟨f2, fd2, g2, k2, b2, G2⟩ := c2.row.ex
  obtain ⟨f3, fd3, g3, k3, b3, G3⟩ := c3.row.ex
  obtain ⟨f4, fd4, g4, k4, b4, G4⟩ := c4.pure.ex
  obtain ⟨f, fd, g, k, F, b⟩ := T.d_lw_house.ex
  refine ⟨f, fd, g, k, b, okM F sc_lw_house rfl rfl (by decide) fun cdv A outer s H E hr => ?_⟩
  have sc := sc_lw_house
  have h1 := hr.mono (show 1 ≤ 2 by decide)
  have h2 := hr.mono (show 2 ≤ 2 by decide)
  have h3 := hr.mono (show 2 ≤ 2 by decide)
  have h4 := hr.mono (show 2 ≤ 2 by decide)
  exact pms_cons (pm_set (i := 1) sc.nd rfl (by first | exact Or.inl rfl | exact Or.inr rfl) (pm_ix rfl (pm_lst (pma_cons (pm_int) (pma_cons (pm_int) (pma_cons (pm_int) (pma_cons (pm_int) (pma_cons (pm_int) (pma_nil))))))) (pm_call G1 h1 g1 k1 b1 (fun σ => passAt (takes_of rfl rfl rfl rfl) σ) (pma_cons (pm_var 0) (pma_cons (pm_int) (pma_nil)))))) (pms_cons (pm_set (i := 2) sc.nd rfl (by first | exact Or.inl rfl | exact Or.inr rfl) (pm_lstC (pma_nil))) (pms_cons (pms_for (passes_of rfl) rfl (pmi_rng1 T.n_range (pma_cons (pm_op (om_mul rfl) (pm_call G1 h1 g1 k1 b1 (fun σ => passAt (takes_of rfl rfl rfl rfl) σ) (pma_cons (pm_var 0) (pma_cons (pm_ix rfl (pm_lst (pma_cons (pm_int) (pma_cons (pm_int) (pma_nil)))) (pm_call G1 h1 g1 k1 b1 (fun σ => passAt (takes_of rfl rfl rfl rfl) σ) (pma_cons (pm_var 0) (pma_cons (pm_int) (pma_nil))))) (pma_nil)))) (pm_callTy (cm_int) T.n_int bt_int (pma_cons (pm_cmp om_gt (pm_var 1) (pm_int) (nomark _)) (pma_nil)))) (pma_nil))) (pmg_name (i := 3) sc.nd rfl (by first | exact Or.inl rfl | exact Or.inr rfl)) (pms_cons (pm_set (i := 4) sc.nd rfl (by first | exact Or.inl rfl | exact Or.inr rfl) (pm_call G1 h1 g1 k1 b1 (fun σ => passAt (takes_of rfl rfl rfl rfl) σ) (pma_cons (pm_var 0) (pma_cons (pm_op (om_sub) (pm_var 1) (pm_int)) (pma_nil))))) (pms_cons (pm_set (i := 5) sc.nd rfl (by first | exact Or.inl rfl | exact Or.inr rfl) (pm_op (om_add rfl) (pm_op (om_add rfl) (pm_var 4) (pm_int)) (pm_call G1 h1 g1 k1 b1 (fun σ => passAt (takes_of rfl rfl rfl rfl) σ) (pma_cons (pm_var 0) (pma_cons (pm_op (om_sub) (pm_op (om_sub) (pm_var 1) (pm_int)) (pm_var 4)) (pma_nil)))))) (pms_cons (pm_set (i := 6) sc.nd rfl (by first | exact Or.inl rfl | exact Or.inr rfl) (pm_ix rfl (pm_lst (pma_cons (pm_int) (pma_cons (pm_int) (pma_cons (pm_call G1 h1 g1 k1 b1 (fun σ => passAt (takes_of rfl rfl rfl rfl) σ) (pma_cons (pm_var 0) (pma_cons (pm_int) (pma_nil)))) (pma_nil))))) (pm_call G1 h1 g1 k1 b1 (fun σ => passAt (takes_of rfl rfl rfl rfl) σ) (pma_cons (pm_var 0) (pma_cons (pm_int) (pma_nil)))))) (pms_cons (pm_set (i := 7) sc.nd rfl (by first | exact Or.inl rfl | exact Or.inr rfl) (pm_ix rfl (pm_lst (pma_cons (pm_int) (pma_cons (pm_op (om_add rfl) (pm_op (om_add rfl) (pm_var 6) (pm_int)) (pm_call G1 h1 g1 k1 b1 (fun σ => passAt (takes_of rfl rfl rfl rfl) σ) (pma_cons (pm_var 0) (pma_cons (pm_op (om_sub) (pm_int) (pm_var 6)) (pma_nil))))) (pma_nil)))) (pm_call G1 h1 g1 k1 b1 (fun σ => passAt (takes_of rfl rfl rfl rfl) σ) (pma_cons (pm_var 0) (pma_cons (pm_int) (pma_nil)))))) (pms_one (pm_expr (pm_bm rfl ms_append PySem.F.plainAttrs_list PySem.F.slot_list_append PySem.F.type_list_append (pm_var 2) (pma_cons (pm_tup (pma_cons (pm_var 4) (pma_cons (pm_var 5) (pma_cons (pm_ix rfl (pm_lst (pma_cons (pm_int) (pma_cons (pm_int) (pma_cons (pm_int) (pma_cons (pm_int) (pma_cons (pm_int) (pma_nil))))))) (pm_call G1 h1 g1 k1 b1 (fun σ => passAt (takes_of rfl rfl rfl rfl) σ) (pma_cons (pm_var 0) (pma_cons (pm_int) (pma_nil))))) (pma_cons (pm_var 6) (pma_cons (pm_var 7) (pma_nil))))))) (pma_nil)))))))))) (pms_frz 2 (pms_cons (pm_set (i := 8) sc.nd rfl (by first | exact Or.inl rfl | exact Or.inr rfl) (pm_call G2 h2 g2 k2 b2 (fun σ => passAt (takes_of rfl rfl rfl rfl) σ) (pma_cons (pm_var 0) (pma_nil)))) (pms_cons (pm_set (i := 9) sc.nd rfl (by first | exact Or.inl rfl | exact Or.inr rfl) (pm_op (om_add rfl) (pm_int) (pm_call G1 h1 g1 k1 b1 (fun σ => passAt (takes_of rfl rfl rfl rfl) σ) (pma_cons (pm_var 0) (pma_cons (pm_int) (pma_nil)))))) (pms_cons (pm_set (i := 10) sc.nd rfl (by first | exact Or.inl rfl | exact Or.inr rfl) (pm_lc (own := [("_law_k", 3)]) (G := gName 3) rfl sc.nd (pmi_rng1 T.n_range (pma_cons (pm_var 9) (pma_nil))) (blkOk_by (N := ["_law_row", "_law_zones", "_law_doors", "_law_k", "_law_one", "_law_other", "_law_opens", "_law_shuts", "_law_names_here", "_law_many", "_law_people", "_law_hours", "_law_house_here", "_law_state", "_law_person_here"]) (sc := defScope st_lw_house) (by decide +kernel)) (tgLc_name (by decide)) (fun _ _ _ _ _ => pg_name (i := 3) sc.nd rfl (by first | exact Or.inl rfl | exact Or.inr rfl)) (fun _ _ _ _ _ => pmts_nil) (fun _ _ _ _ _ => pm_call G3 h3 g3 k3 b3 (fun σ => passAt takes0 σ) (pma_cons (pm_var 0) (pma_cons (pm_ix rfl (pm_var 8) (pm_var 3)) (pma_cons (pm_var 1) (pma_nil))))))) (pms_cons (pm_set (i := 11) sc.nd rfl (by first | exact Or.inl rfl | exact Or.inr rfl) (pm_call G1 h1 g1 k1 b1 (fun σ => passAt (takes_of rfl rfl rfl rfl) σ) (pma_cons (pm_var 0) (pma_cons (pm_op (om_sub) (pm_ix rfl (pm_lst (pma_cons (pm_int) (pma_cons (pm_int) (pma_cons (pm_int) (pma_cons (pm_int) (pma_nil)))))) (pm_op (om_sub) (pm_var 9) (pm_int))) (pm_callTy (cm_int) T.n_int bt_int (pma_cons (pm_cmp (om_eq rfl hr.units) (pm_var 1) (pm_int) (nomark _)) (pma_nil)))) (pma_nil))))) (pms_cons (pms_if (pmt_bool (pmt_and (pmt_cmp om_lt (pm_callB (cm_len rfl) T.n_len bt_len (pma_cons (pm_var 2) (pma_nil))) (pm_int) (nomark _)) (pmt_and1 (pmt_cmp (om_eq rfl hr.units) (pm_call G1 h1 g1 k1 b1 (fun σ => passAt (takes_of rfl rfl rfl rfl) σ) (pma_cons (pm_var 0) (pma_cons (pm_int) (pma_nil)))) (pm_int) (nomark _))))) (pms_one (pm_set (i := 11) sc.nd rfl (by first | exact Or.inl rfl | exact Or.inr rfl) (pm_op (om_add rfl) (pm_int) (pm_call G1 h1 g1 k1 b1 (fun σ => passAt (takes_of rfl rfl rfl rfl) σ) (pma_cons (pm_var 0) (pma_cons (pm_int) (pma_nil))))))) (pms_nil)) (pms_cons (pm_set (i := 12) sc.nd rfl (by first | exact Or.inl rfl | exact Or.inr rfl) (pm_tup (pma_cons (pm_var 1) (pma_cons (pm_var 11) (pma_cons (pm_var 2) (pma_cons (pm_var 10) (pma_nil))))))) (pms_cons (pm_set (i := 13) sc.nd rfl (by first | exact Or.inl rfl | exact Or.inr rfl) (pm_callTy (cm_tuple rfl) T.n_tuple bt_tuple (pma_cons (pm_lc (own := [("_law_person_here", 14)]) (G := gName 14) rfl sc.nd (pmi_items rfl (pm_var 10)) (blkOk_by (N := ["_law_row", "_law_zones", "_law_doors", "_law_k", "_law_one", "_law_other", "_law_opens", "_law_shuts", "_law_names_here", "_law_many", "_law_people", "_law_hours", "_law_house_here", "_law_state", "_law_person_here"]) (sc := defScope st_lw_house) (by decide +kernel)) (tgLc_name (by decide)) (fun _ _ _ _ _ => pg_name (i := 14) sc.nd rfl (by first | exact Or.inl rfl | exact Or.inr rfl)) (fun _ _ _ _ _ => pmts_nil) (fun _ _ _ _ _ => pm_call G1 h1 g1 k1 b1 (fun σ => passAt takes0 σ) (pma_cons (pm_var 0) (pma_cons (pm_var 1) (pma_nil))))) (pma_nil)))) (pms_cons (pms_if (pmt_bool (pmt_and (pmt_cmp (om_eq rfl hr.units) (pm_call G1 h1 g1 k1 b1 (fun σ => passAt (takes_of rfl rfl rfl rfl) σ) (pma_cons (pm_var 0) (pma_cons (pm_int) (pma_nil)))) (pm_int) (nomark _)) (pmt_and1 (pmt_cmp om_is (pm_call G4 h4 g4 k4 b4 (fun σ => passAt (takes_of rfl rfl rfl rfl) σ) (pma_cons (pm_var 12) (pma_cons (pm_var 13) (pma_nil)))) (pm_non) (nomark _))))) (pms_one (pm_set (i := 10) sc.nd rfl (by first | exact Or.inl rfl | exact Or.inr rfl) (pm_lc (own := [("_law_k", 3)]) (G := gName 3) rfl sc.nd (pmi_rng1 T.n_range (pma_cons (pm_var 9) (pma_nil))) (blkOk_by (N := ["_law_row", "_law_zones", "_law_doors", "_law_k", "_law_one", "_law_other", "_law_opens", "_law_shuts", "_law_names_here", "_law_many", "_law_people", "_law_hours", "_law_house_here", "_law_state", "_law_person_here"]) (sc := defScope st_lw_house) (by decide +kernel)) (tgLc_name (by decide)) (fun _ _ _ _ _ => pg_name (i := 3) sc.nd rfl (by first | exact Or.inl rfl | exact Or.inr rfl)) (fun _ _ _ _ _ => pmts_nil) (fun _ _ _ _ _ => pm_op (om_add rfl) (pm_op (om_add rfl) (pm_slice rfl (pm_ix rfl (pm_var 10) (pm_var 3)) (pmo_none) (pmo_some (pm_int))) (pm_tup (pma_cons (pm_ix rfl (pm_var 13) (pm_var 3)) (pma_nil)))) (pm_slice rfl (pm_ix rfl (pm_var 10) (pm_var 3)) (pmo_some (pm_int)) (pmo_none)))))) (pms_nil)) (pms_one (pm_ret (pm_tup (pma_cons (pm_var 1) (pma_cons (pm_var 11) (pma_cons (pm_var 2) (pma_cons (pm_var 10) (pma_nil)))))))))))))))))))
theorem sc_BadHouse_init : FnScope ["self", "word", "number"] ["self", "word", "number"] (defScope st_BadHouse_init) := ⟨rfl, rfl, rfl, by decide +kernel, rfl, by decide +kernel, by decide +kernel⟩
theorem ok_BadHouse_init (T : Tx K mg cls) : EICal P w K mg base cls 2 2 1 ["self", "word", "number"] := by
  obtain ⟨f, fd, o, i, t, F, b⟩ := T.d_BadHouse_init.ex
  have sc := sc_BadHouse_init
  refine ⟨f, fd, o, i, t, b, F.okX sc (fun vs H Q E h => by obtain ⟨a, ws, rfl, hw, _⟩ := h; simp [hw]) fun cdv A outer s H vs Q E hr h => ⟨_, ?_, ei_read (g := gam P w K cls) (c := 2) (n := 2) (f1 := "word") (l := [("number", 2)]) o rfl (by decide) ?_ ?_ ?_ h⟩⟩
  · exact pss_cons (ps_expr (pe_beinit rfl T.k_BookError T.bi.rd T.bi.fi (pa_cons (pv 0) (pa_cons (pv 1) pa_nil)))) (pss_cons (ps_ost (pv 0) (pv 1)) (pss_cons (ps_ost (pv 0) (pv 2)) (pss_nil)))
  · intro j p e
    rcases j with _ | _ | j
    · cases (Option.some.inj e); rfl
    · cases (Option.some.inj e); rfl
    · simp at e
  · intro p hp
    simp only [List.mem_cons, List.not_mem_nil, or_false] at hp
    rcases hp with rfl | rfl
    · exact T.d_BadHouse_init.na _ (by decide +kernel)
    · exact T.d_BadHouse_init.na _ (by decide +kernel)
  · exact fun ws h => match ws, h with | [_, _], _ => rfl
theorem sc_must : FnScope ["good", "word", "number"] ["good", "word", "number"] (defScope st_must) := ⟨rfl, rfl, rfl, by decide +kernel, rfl, by decide +kernel, by decide +kernel⟩
theorem ok_must (T : Tx K mg cls) (c1 : EICal P w K mg base cls 2 2 1 ["self", "word", "number"]) : Cal P w K mg base cls "must" 3 ["good", "word", "number"] m_must := by
  obtain ⟨f1, fd1, o1, i1, t1, b1, G1⟩ := c1.ex
  obtain ⟨f, fd, g, k, F, b⟩ := T.d_must.ex
  refine ⟨f, fd, g, k, b, okM F sc_must rfl rfl (by decide) fun cdv A outer s H E hr => ?_⟩
  have sc := sc_must
  have h1 := hr.mono (show 2 ≤ 2 by decide)
  exact pms_one (pms_if (pmt_not (pmt_val (pm_var 0))) (pms_one (pm_raise 2 2 (by decide) rfl (takes_of rfl rfl rfl rfl) o1 i1 t1 G1 h1 b1 (passes_call (E := fun _ _ _ => False) (takes_of rfl rfl rfl rfl) (fun _ _ _ _ z => z.elim)) T.k_BadHouse (pma_cons (pm_var 1) (pma_cons (pm_var 2) (pma_nil))))) (pms_nil))
theorem sc_is_free : FnScope ["house", "person", "zone"] ["house", "person", "zone"] (defScope st_is_free) := ⟨rfl, rfl, rfl, by decide +kernel, rfl, by decide +kernel, by decide +kernel⟩
theorem ok_is_free (T : Tx K mg cls)  : Cal P w K mg base cls "is_free" 1 ["house", "person", "zone"] m_is_free := by
  obtain ⟨f, fd, g, k, F, b⟩ := T.d_is_free.ex
  refine ⟨f, fd, g, k, b, okM F sc_is_free rfl rfl (by decide) fun cdv A outer s H E hr => ?_⟩
  have sc := sc_is_free
  exact pms_one (pm_ret (pm_or (pm_cmp (om_eq rfl hr.units) (pm_var 2) (pm_int) (nomark _)) (pm_one (pm_cmp (om_in rfl) (pm_var 2) (pm_ix rfl (pm_ix rfl (pm_fld 0 3 rfl (T.c0.ok (by decide)) rfl (pm_var 0)) (pm_var 1)) (pm_gint T.g_FREE)) (by with_unfolding_all rfl)))))
theorem sc_may_be : FnScope ["house", "person", "zone"] ["house", "person", "zone"] (defScope st_may_be) := ⟨rfl, rfl, rfl, by decide +kernel, rfl, by decide +kernel, by decide +kernel⟩
theorem ok_may_be (T : Tx K mg cls) (c1 : Cal P w K mg base cls "is_free" 1 ["house", "person", "zone"] m_is_free) : Cal P w K mg base cls "may_be" 2 ["house", "person", "zone"] m_may_be := by
  obtain ⟨f1, fd1, g1, k1, b1, G1⟩ := c1.ex
  obtain ⟨f, fd, g, k, F, b⟩ := T.d_may_be.ex
  refine ⟨f, fd, g, k, b, okM F sc_may_be rfl rfl (by decide) fun cdv A outer s H E hr => ?_⟩
  have sc := sc_may_be
  have h1 := hr.mono (show 1 ≤ 1 by decide)
  exact pms_one (pm_ret (pm_or (pm_call G1 h1 g1 k1 b1 (fun σ => passAt (takes_of rfl rfl rfl rfl) σ) (pma_cons (pm_var 0) (pma_cons (pm_var 1) (pma_cons (pm_var 2) (pma_nil))))) (pm_one (pm_cmp (om_in rfl) (pm_var 2) (pm_ix rfl (pm_ix rfl (pm_fld 0 3 rfl (T.c0.ok (by decide)) rfl (pm_var 0)) (pm_var 1)) (pm_gint T.g_LED)) (by with_unfolding_all rfl)))))
theorem sc_led_ones : FnScope ["house", "persons", "zones", "person", "zone"] ["house", "persons", "zones"] (defScope st_led_ones) := ⟨rfl, rfl, rfl, by decide +kernel, rfl, by decide +kernel, by decide +kernel⟩
theorem ok_led_ones (T : Tx K mg cls) (c1 : Cal P w K mg base cls "is_free" 1 ["house", "person", "zone"] m_is_free) : Cal P w K mg base cls "led_ones" 2 ["house", "persons", "zones"] m_led_ones := by
  obtain ⟨f1, fd1, g1, k1, b1, G1⟩ := c1.ex
  obtain ⟨f, fd, g, k, F, b⟩ := T.d_led_ones.ex
  refine ⟨f, fd, g, k, b, okM F sc_led_ones rfl rfl (by decide) fun cdv A outer s H E hr => ?_⟩
  have sc := sc_led_ones
  have h1 := hr.mono (show 1 ≤ 1 by decide)
  exact pms_one (pm_ret (pm_lc (own := [("person", 3)]) (G := gName 3) rfl sc.nd (pmi_items rfl (pm_var 1)) (blkOk_by (N := ["house", "persons", "zones", "person", "zone"]) (sc := defScope st_led_ones) (by decide +kernel)) (tgLc_name (by decide)) (fun _ _ _ _ _ => pg_name (i := 3) sc.nd rfl (by first | exact Or.inl rfl | exact Or.inr rfl)) (fun _ _ _ _ _ => pmts_one (pmt_cmp (om_ne rfl hr.units) (pm_lc (own := [("zone", 4)]) (G := gName 4) rfl sc.nd (pmi_items rfl (pm_var 2)) (blkOk_by (N := ["house", "persons", "zones", "person", "zone"]) (by first | rfl | with_unfolding_all rfl | kernel_rfl)) (tgLc_name (by decide)) (fun _ _ _ _ _ => pg_name (i := 4) sc.nd rfl (by first | exact Or.inl rfl | exact Or.inr rfl)) (fun _ _ _ _ _ => pmts_one (pmt_not (pmt_val (pm_call G1 h1 g1 k1 b1 (fun σ => passAt takes0 σ) (pma_cons (pm_var 0) (pma_cons (pm_var 3) (pma_cons (pm_var 4) (pma_nil)))))))) (fun _ _ _ _ _ => pm_var 4)) (pm_lst (pma_nil)) (nomark _))) (fun _ _ _ _ _ => pm_var 3)))
theorem sc_can_lead : FnScope ["house", "persons", "zones", "leaders", "person"] ["house", "persons", "zones"] (defScope st_can_lead) := ⟨rfl, rfl, rfl, by decide +kernel, rfl, by decide +kernel, by decide +kernel⟩
theorem ok_can_lead (T : Tx K mg cls) (c1 : Cal P w K mg base cls "led_ones" 2 ["house", "persons", "zones"] m_led_ones) : Cal P w K mg base cls "can_lead" 3 ["house", "persons", "zones"] m_can_lead_01 := by
  obtain ⟨f1, fd1, g1, k1, b1, G1⟩ := c1.ex
  obtain ⟨f, fd, g, k, F, b⟩ := T.d_can_lead.ex
  refine ⟨f, fd, g, k, b, okM F sc_can_lead rfl rfl (by decide) fun cdv A outer s H E hr => ?_⟩
  have sc := sc_can_lead
  have h1 := hr.mono (show 2 ≤ 2 by decide)
  exact pms_cons (pm_setLc (i := 3) rfl sc.nd rfl rfl (sw_true rfl rfl rfl (by decide +kernel)) (own := [("person", 4)]) (G := gName 4) (pmi_items rfl (pm_var 1)) (blkOk_by (N := ["house", "persons", "zones", "leaders", "person"]) (sc := defScope st_can_lead) (by decide +kernel)) (tgLc_name (by decide)) (fun _ _ _ _ _ => pg_name (i := 4) sc.nd rfl (by first | exact Or.inl rfl | exact Or.inr rfl)) (fun _ _ _ _ _ => pmts_one (pmt_cmp (om_notin rfl) (pm_var 4) (pm_call G1 h1 g1 k1 b1 (fun σ => passAt takes0 σ) (pma_cons (pm_var 0) (pma_cons (pm_var 1) (pma_cons (pm_var 2) (pma_nil))))) (by with_unfolding_all rfl))) (fun _ _ _ _ _ => pm_var 4)) (pms_one (pm_ret (pm_callB (cm_sum rfl rfl) T.n_sum bt_sum (pma_cons (pm_lc (own := [("person", 4)]) (G := gName 4) rfl sc.nd (pmi_items rfl (pm_var 3)) (blkOk_by (N := ["house", "persons", "zones", "leaders", "person"]) (sc := defScope st_can_lead) (by decide +kernel)) (tgLc_name (by decide)) (fun _ _ _ _ _ => pg_name (i := 4) sc.nd rfl (by first | exact Or.inl rfl | exact Or.inr rfl)) (fun _ _ _ _ _ => pmts_nil) (fun _ _ _ _ _ => pm_ix rfl (pm_ix rfl (pm_fld 0 3 rfl (T.c0.ok (by decide)) rfl (pm_var 0)) (pm_var 4)) (pm_gint T.g_MOST))) (pma_nil)))))
theorem sc_left_one : FnScope ["house", "state", "person", "zone", "here", "other"] ["house", "state"] (defScope st_left_one) := ⟨rfl, rfl, rfl, by decide +kernel, rfl, by decide +kernel, by decide +kernel⟩
theorem ok_left_one (T : Tx K mg cls) (c1 : Cal P w K mg base cls "may_be" 2 ["house", "person", "zone"] m_may_be) (c2 : Cal P w K mg base cls "is_free" 1 ["house", "person", "zone"] m_is_free) (c3 : Cal P w K mg base cls "led_ones" 2 ["house", "persons", "zones"] m_led_ones) (c4 : Cal P w K mg base cls "can_lead" 3 ["house", "persons", "zones"] m_can_lead_01) : Cal P w K mg base cls "left_one" 4 ["house", "state"] m_left_one_01 := by
  obtain ⟨f1, fd1, g1, k1, b1, G1⟩ := c1.ex
  obtain ⟨f2, fd2, g2, k2, b2, G2⟩ := c2.ex
  obtain ⟨f3, fd3, g3, k3, b3, G3⟩ := c3.ex
  obtain ⟨f4, fd4, g4, k4, b4, G4⟩ := c4.ex
  obtain ⟨f, fd, g, k, F, b⟩ := T.d_left_one.ex
  refine ⟨f, fd, g, k, b, okM F sc_left_one rfl rfl (by decide) fun cdv A outer s H E hr => ?_⟩
  have sc := sc_left_one
  have h1 := hr.mono (show 2 ≤ 3 by decide)
  have h2 := hr.mono (show 1 ≤ 3 by decide)
  have h3 := hr.mono (show 2 ≤ 3 by decide)
  have h4 := hr.mono (show 3 ≤ 3 by decide)
  exact pms_cons (pms_for (passes_of rfl) rfl (pmi_rng1 T.n_range (pma_cons (pm_callB (cm_len rfl) T.n_len bt_len (pma_cons (pm_var 1) (pma_nil))) (pma_nil))) (pmg_name (i := 2) sc.nd rfl (by first | exact Or.inl rfl | exact Or.inr rfl)) (pms_cons (pm_set (i := 3) sc.nd rfl (by first | exact Or.inl rfl | exact Or.inr rfl) (pm_ix rfl (pm_var 1) (pm_var 2))) (pms_cons (pms_if (pmt_not (pmt_val (pm_call G1 h1 g1 k1 b1 (fun σ => passAt (takes_of rfl rfl rfl rfl) σ) (pma_cons (pm_var 0) (pma_cons (pm_var 2) (pma_cons (pm_var 3) (pma_nil))))))) (pms_one (pm_ret (pm_var 2))) (pms_nil)) (pms_cons (pm_setLc (i := 4) rfl sc.nd rfl rfl (sw_true rfl rfl rfl (by decide +kernel)) (own := [("other", 5)]) (G := gName 5) (pmi_rng1 T.n_range (pma_cons (pm_callB (cm_len rfl) T.n_len bt_len (pma_cons (pm_var 1) (pma_nil))) (pma_nil))) (blkOk_by (N := ["house", "state", "person", "zone", "here", "other"]) (sc := defScope st_left_one) (by decide +kernel)) (tgLc_name (by decide)) (fun _ _ _ _ _ => pg_name (i := 5) sc.nd rfl (by first | exact Or.inl rfl | exact Or.inr rfl)) (fun _ _ _ _ _ => pmts_one (pmt_cmp (om_eq rfl hr.units) (pm_ix rfl (pm_var 1) (pm_var 5)) (pm_var 3) (nomark _))) (fun _ _ _ _ _ => pm_var 5)) (pms_one (pms_if (pmt_bool (pmt_and (pmt_not (pmt_val (pm_call G2 h2 g2 k2 b2 (fun σ => passAt (takes_of rfl rfl rfl rfl) σ) (pma_cons (pm_var 0) (pma_cons (pm_var 2) (pma_cons (pm_var 3) (pma_nil))))))) (pmt_and1 (pmt_cmp om_gt (pm_callB (cm_len rfl) T.n_len bt_len (pma_cons (pm_call G3 h3 g3 k3 b3 (fun σ => passAt (takes_of rfl rfl rfl rfl) σ) (pma_cons (pm_var 0) (pma_cons (pm_var 4) (pma_cons (pm_lst (pma_cons (pm_var 3) (pma_nil))) (pma_nil))))) (pma_nil))) (pm_call G4 h4 g4 k4 b4 (fun σ => passAt (takes_of rfl rfl rfl rfl) σ) (pma_cons (pm_var 0) (pma_cons (pm_var 4) (pma_cons (pm_lst (pma_cons (pm_var 3) (pma_nil))) (pma_nil))))) (nomark _))))) (pms_one (pm_ret (pm_var 2))) (pms_nil))))))) (pms_one (pm_ret (pm_non)))
theorem sc_House_is_door : FnScope ["self", "door", "one", "other", "wide", "opens", "shuts"] ["self", "door"] (defScope st_House_is_door) := ⟨rfl, rfl, rfl, by decide +kernel, rfl, by decide +kernel, by decide +kernel⟩
theorem ok_House_is_door (T : Tx K mg cls)  : MCal P w K mg base cls 0 "is_door" 1 ["self", "door"] m_House_is_door := by
  obtain ⟨f, fd, g, F, b⟩ := T.d_House_is_door.ex
  refine ⟨f, fd, g, b, okM F sc_House_is_door rfl rfl (by decide) fun cdv A outer s H E hr => ?_⟩
  have sc := sc_House_is_door
  exact pms_cons (pm_asg (pm_var 1) (pmg_tup rfl rfl (pmgs_cons (pmg_name (i := 2) sc.nd rfl (by first | exact Or.inl rfl | exact Or.inr rfl)) (pmgs_cons (pmg_name (i := 3) sc.nd rfl (by first | exact Or.inl rfl | exact Or.inr rfl)) (pmgs_cons (pmg_name (i := 4) sc.nd rfl (by first | exact Or.inl rfl | exact Or.inr rfl)) (pmgs_cons (pmg_name (i := 5) sc.nd rfl (by first | exact Or.inl rfl | exact Or.inr rfl)) (pmgs_cons (pmg_name (i := 6) sc.nd rfl (by first | exact Or.inl rfl | exact Or.inr rfl)) (pmgs_nil)))))))) (pms_one (pm_ret (pm_and (pm_chain3 om_le om_lt om_lt (pm_int) (pm_var 2) (pm_var 3) (pm_fld 0 0 rfl (T.c0.ok (by decide)) rfl (pm_var 0))) (pm_and (pm_chain om_le om_le (pm_int) (pm_var 4) (pm_gint T.g_MOST_WIDE)) (pm_one (pm_chain3 om_le om_lt om_le (pm_int) (pm_var 5) (pm_var 6) (pm_gint T.g_MOST_HOURS)))))))
theorem sc_is_name : FnScope ["text", "sign"] ["text"] (defScope st_is_name) := ⟨rfl, rfl, rfl, by decide +kernel, rfl, by decide +kernel, by decide +kernel⟩
theorem ok_is_name (T : Tx K mg cls)  : Cal P w K mg base cls "is_name" 1 ["text"] m_is_name := by
  obtain ⟨f, fd, g, k, F, b⟩ := T.d_is_name.ex
  refine ⟨f, fd, g, k, b, okM F sc_is_name rfl rfl (by decide) fun cdv A outer s H E hr => ?_⟩
  have sc := sc_is_name
  exact pms_one (pm_ret (pm_and (pm_chain om_le om_le (pm_int) (pm_callB (cm_len rfl) T.n_len bt_len (pma_cons (pm_var 0) (pma_nil))) (pm_gint T.g_LONGEST_NAME)) (pm_one (pm_cmp (om_eq rfl hr.units) (pm_lc (own := [("sign", 1)]) (G := gName 1) rfl sc.nd (pmi_items rfl (pm_var 0)) (blkOk_by (N := ["text", "sign"]) (sc := defScope st_is_name) (by decide +kernel)) (tgLc_name (by decide)) (fun _ _ _ _ _ => pg_name (i := 1) sc.nd rfl (by first | exact Or.inl rfl | exact Or.inr rfl)) (fun _ _ _ _ _ => pmts_one (pmt_cmp om_notinS (pm_var 1) (pm_gstr T.g_LETTERS) (by with_unfolding_all rfl))) (fun _ _ _ _ _ => pm_var 1)) (pm_lst (pma_nil)) (nomark _)))))
theorem sc_House_is_person : FnScope ["self", "number", "name", "begin", "goal", "most", "since", "free", "led", "zones", "person", "zone"] ["self", "number"] (defScope st_House_is_person) := ⟨rfl, rfl, rfl, by decide +kernel, rfl, by decide +kernel, by decide +kernel⟩
theorem ok_House_is_person (T : Tx K mg cls) (c1 : Cal P w K mg base cls "is_name" 1 ["text"] m_is_name) : MCal P w K mg base cls 0 "is_person" 2 ["self", "number"] m_House_is_person := by
  obtain ⟨f1, fd1, g1, k1, b1, G1⟩ := c1.ex
  obtain ⟨f, fd, g, F, b⟩ := T.d_House_is_person.ex
  refine ⟨f, fd, g, b, okM F sc_House_is_person rfl rfl (by decide) fun cdv A outer s H E hr => ?_⟩
  have sc := sc_House_is_person
  have h1 := hr.mono (show 1 ≤ 1 by decide)
  exact pms_cons (pm_asg (pm_ix rfl (pm_fld 0 3 rfl (T.c0.ok (by decide)) rfl (pm_var 0)) (pm_var 1)) (pmg_tup rfl rfl (pmgs_cons (pmg_name (i := 2) sc.nd rfl (by first | exact Or.inl rfl | exact Or.inr rfl)) (pmgs_cons (pmg_name (i := 3) sc.nd rfl (by first | exact Or.inl rfl | exact Or.inr rfl)) (pmgs_cons (pmg_name (i := 4) sc.nd rfl (by first | exact Or.inl rfl | exact Or.inr rfl)) (pmgs_cons (pmg_name (i := 5) sc.nd rfl (by first | exact Or.inl rfl | exact Or.inr rfl)) (pmgs_cons (pmg_name (i := 6) sc.nd rfl (by first | exact Or.inl rfl | exact Or.inr rfl)) (pmgs_cons (pmg_name (i := 7) sc.nd rfl (by first | exact Or.inl rfl | exact Or.inr rfl)) (pmgs_cons (pmg_name (i := 8) sc.nd rfl (by first | exact Or.inl rfl | exact Or.inr rfl)) (pmgs_nil)))))))))) (pms_cons (pms_if (pmt_bool (pmt_or (pmt_not (pmt_val (pm_call G1 h1 g1 k1 b1 (fun σ => passAt (takes_of rfl rfl rfl rfl) σ) (pma_cons (pm_var 2) (pma_nil))))) (pmt_or1 (pmt_cmp (om_in rfl) (pm_var 2) (pm_lc (own := [("person", 10)]) (G := gName 10) rfl sc.nd (pmi_items rfl (pm_slice rfl (pm_fld 0 3 rfl (T.c0.ok (by decide)) rfl (pm_var 0)) (pmo_none) (pmo_some (pm_var 1)))) (blkOk_by (N := ["self", "number", "name", "begin", "goal", "most", "since", "free", "led", "zones", "person", "zone"]) (sc := defScope st_House_is_person) (by decide +kernel)) (tgLc_name (by decide)) (fun _ _ _ _ _ => pg_name (i := 10) sc.nd rfl (by first | exact Or.inl rfl | exact Or.inr rfl)) (fun _ _ _ _ _ => pmts_nil) (fun _ _ _ _ _ => pm_ix rfl (pm_var 10) (pm_gint T.g_NAME))) (by with_unfolding_all rfl))))) (pms_one (pm_ret (pm_bl))) (pms_nil)) (pms_cons (pms_if (pmt_bool (pmt_or (pmt_not (pmt_chain om_le om_lt (pm_int) (pm_var 3) (pm_fld 0 0 rfl (T.c0.ok (by decide)) rfl (pm_var 0)))) (pmt_or1 (pmt_not (pmt_chain om_le om_lt (pm_neg (pm_int)) (pm_var 4) (pm_fld 0 0 rfl (T.c0.ok (by decide)) rfl (pm_var 0))))))) (pms_one (pm_ret (pm_bl))) (pms_nil)) (pms_cons (pms_if (pmt_bool (pmt_or (pmt_not (pmt_chain om_le om_le (pm_int) (pm_var 5) (pm_gint T.g_MOST_PEOPLE))) (pmt_or1 (pmt_not (pmt_chain om_le om_le (pm_int) (pm_var 6) (pm_gint T.g_MOST_HOURS)))))) (pms_one (pm_ret (pm_bl))) (pms_nil)) (pms_cons (pm_set (i := 9) sc.nd rfl (by first | exact Or.inl rfl | exact Or.inr rfl) (pm_op (om_add rfl) (pm_var 7) (pm_var 8))) (pms_cons (pms_if (pmt_bool (pmt_or (pmt_cmp (om_ne rfl hr.units) (pm_lc (own := [("zone", 11)]) (G := gName 11) rfl sc.nd (pmi_items rfl (pm_var 9)) (blkOk_by (N := ["self", "number", "name", "begin", "goal", "most", "since", "free", "led", "zones", "person", "zone"]) (sc := defScope st_House_is_person) (by decide +kernel)) (tgLc_name (by decide)) (fun _ _ _ _ _ => pg_name (i := 11) sc.nd rfl (by first | exact Or.inl rfl | exact Or.inr rfl)) (fun _ _ _ _ _ => pmts_one (pmt_not (pmt_chain om_le om_lt (pm_int) (pm_var 11) (pm_fld 0 0 rfl (T.c0.ok (by decide)) rfl (pm_var 0))))) (fun _ _ _ _ _ => pm_var 11)) (pm_lst (pma_nil)) (nomark _)) (pmt_or1 (pmt_cmp (om_ne rfl hr.units) (pm_callB (cm_lenSet rfl) T.n_len bt_len (pma_cons (pm_callTy (cm_set rfl rfl rfl) T.n_set bt_set (pma_cons (pm_var 9) (pma_nil))) (pma_nil))) (pm_callB (cm_len rfl) T.n_len bt_len (pma_cons (pm_var 9) (pma_nil))) (nomark _))))) (pms_one (pm_ret (pm_bl))) (pms_nil)) (pms_one (pm_ret (pm_and (pm_cmp (om_eq rfl hr.units) (pm_var 7) (pm_callTy (cm_tuple rfl) T.n_tuple bt_tuple (pma_cons (pm_callB (cm_sortTup rfl) T.n_sorted bt_sorted (pma_cons (pm_var 7) (pma_nil))) (pma_nil))) (nomark _)) (pm_one (pm_cmp (om_eq rfl hr.units) (pm_var 8) (pm_callTy (cm_tuple rfl) T.n_tuple bt_tuple (pma_cons (pm_callB (cm_sortTup rfl) T.n_sorted bt_sorted (pma_cons (pm_var 8) (pma_nil))) (pma_nil))) (nomark _)))))))))))
theorem sc_House_init : FnScope ["self", "zones", "hours", "doors", "people", "number", "left", "person"] ["self", "zones", "hours", "doors", "people"] (defScope st_House_init) := ⟨rfl, rfl, rfl, by decide +kernel, rfl, by decide +kernel, by decide +kernel⟩
theorem ok_House_init (T : Tx K mg cls) (c1 : Cal P w K mg base cls "must" 3 ["good", "word", "number"] m_must) (c2 : MCal P w K mg base cls 0 "is_door" 1 ["self", "door"] m_House_is_door) (c3 : MCal P w K mg base cls 0 "is_person" 2 ["self", "number"] m_House_is_person) (c4 : Cal P w K mg base cls "left_one" 4 ["house", "state"] m_left_one_01) : ICal P w K mg base cls 0 5 ["self", "zones", "hours", "doors", "people"] m_House_init_01 := by
  obtain ⟨f1, fd1, g1, k1, b1, G1⟩ := c1.ex
  obtain ⟨f2, fd2, g2, b2, G2⟩ := c2.ex
  obtain ⟨f3, fd3, g3, b3, G3⟩ := c3.ex
  obtain ⟨f4, fd4, g4, k4, b4, G4⟩ := c4.ex
  obtain ⟨f, fd, k, F, b⟩ := T.d_House_init.ex
  refine ⟨f, fd, k, b, okM F sc_House_init rfl rfl (by decide) fun cdv A outer s H E hr => ?_⟩
  have sc := sc_House_init
  have h1 := hr.mono (show 3 ≤ 4 by decide)
  have h2 := hr.mono (show 1 ≤ 4 by decide)
  have h3 := hr.mono (show 2 ≤ 4 by decide)
  have h4 := hr.mono (show 4 ≤ 4 by decide)
  exact pms_cons (pm_expr (pm_call G1 h1 g1 k1 b1 (fun σ => passAt (takes_of rfl rfl rfl rfl) σ) (pma_cons (pm_and (pm_chain om_le om_le (pm_int) (pm_var 1) (pm_gint T.g_MOST_ZONES)) (pm_one (pm_chain om_le om_le (pm_int) (pm_var 2) (pm_gint T.g_MOST_HOURS)))) (pma_cons (pm_str) (pma_cons (pm_int) (pma_nil)))))) (pms_cons (pm_expr (pm_call G1 h1 g1 k1 b1 (fun σ => passAt (takes_of rfl rfl rfl rfl) σ) (pma_cons (pm_cmp om_le (pm_callB (cm_len rfl) T.n_len bt_len (pma_cons (pm_var 3) (pma_nil))) (pm_gint T.g_MOST_DOORS) (nomark _)) (pma_cons (pm_str) (pma_cons (pm_int) (pma_nil)))))) (pms_cons (pm_expr (pm_call G1 h1 g1 k1 b1 (fun σ => passAt (takes_of rfl rfl rfl rfl) σ) (pma_cons (pm_chain om_le om_le (pm_int) (pm_callB (cm_len rfl) T.n_len bt_len (pma_cons (pm_var 4) (pma_nil))) (pm_gint T.g_MOST_PEOPLE)) (pma_cons (pm_str) (pma_cons (pm_int) (pma_nil)))))) (pms_cons (pm_stF 0 0 rfl (T.c0.ok (by decide)) rfl (pm_var 0) (pm_var 1)) (pms_cons (pm_stF 0 1 rfl (T.c0.ok (by decide)) rfl (pm_var 0) (pm_var 2)) (pms_cons (pm_stF 0 2 rfl (T.c0.ok (by decide)) rfl (pm_var 0) (pm_callTy (cm_list rfl) T.n_list bt_list (pma_cons (pm_var 3) (pma_nil)))) (pms_cons (pm_stF 0 3 rfl (T.c0.ok (by decide)) rfl (pm_var 0) (pm_callTy (cm_list rfl) T.n_list bt_list (pma_cons (pm_var 4) (pma_nil)))) (pms_cons (pms_for (passes_of rfl) rfl (pmi_rng1 T.n_range (pma_cons (pm_callB (cm_len rfl) T.n_len bt_len (pma_cons (pm_var 3) (pma_nil))) (pma_nil))) (pmg_name (i := 5) sc.nd rfl (by first | exact Or.inl rfl | exact Or.inr rfl)) (pms_one (pm_expr (pm_call G1 h1 g1 k1 b1 (fun σ => passAt (takes_of rfl rfl rfl rfl) σ) (pma_cons (pm_meth 0 rfl (T.c0.ok (by decide)) (by show ¬ (_ ∈ fldsT 0); decide +kernel) (fun _ _ _ _ z => z) (pm_var 0) g2 G2 h2 b2 (passes_call (takes_of rfl rfl rfl rfl) (fun _ _ _ _ z => z)) (pma_cons (pm_ix rfl (pm_var 3) (pm_var 5)) (pma_nil))) (pma_cons (pm_str) (pma_cons (pm_var 5) (pma_nil)))))))) (pms_cons (pms_for (passes_of rfl) rfl (pmi_rng1 T.n_range (pma_cons (pm_callB (cm_len rfl) T.n_len bt_len (pma_cons (pm_var 4) (pma_nil))) (pma_nil))) (pmg_name (i := 5) sc.nd rfl (by first | exact Or.inl rfl | exact Or.inr rfl)) (pms_one (pm_expr (pm_call G1 h1 g1 k1 b1 (fun σ => passAt (takes_of rfl rfl rfl rfl) σ) (pma_cons (pm_meth 0 rfl (T.c0.ok (by decide)) (by show ¬ (_ ∈ fldsT 0); decide +kernel) (fun _ _ _ _ z => z) (pm_var 0) g3 G3 h3 b3 (passes_call (takes_of rfl rfl rfl rfl) (fun _ _ _ _ z => z)) (pma_cons (pm_var 5) (pma_nil))) (pma_cons (pm_str) (pma_cons (pm_var 5) (pma_nil)))))))) (pms_cons (pm_set (i := 6) sc.nd rfl (by first | exact Or.inl rfl | exact Or.inr rfl) (pm_call G4 h4 g4 k4 b4 (fun σ => passAt (takes_of rfl rfl rfl rfl) σ) (pma_cons (pm_var 0) (pma_cons (pm_callTy (cm_tuple rfl) T.n_tuple bt_tuple (pma_cons (pm_lcK (own := [("person", 7)]) (G := gName 7) rfl rfl sc.nd (pm_var 4) (blkOk_by (N := ["self", "zones", "hours", "doors", "people", "number", "left", "person"]) (sc := defScope st_House_init) (by decide +kernel)) (tgLc_name (by decide)) (fun _ _ _ _ _ => pg_name (i := 7) sc.nd rfl (by first | exact Or.inl rfl | exact Or.inr rfl)) (fun _ _ _ _ _ => pmts_nil) (fun _ _ _ _ _ => pm_ix rfl (pm_var 7) (pm_gint T.g_BEGIN))) (pma_nil))) (pma_nil))))) (pms_one (pm_expr (pm_call G1 h1 g1 k1 b1 (fun σ => passAt (takes_of rfl rfl rfl rfl) σ) (pma_cons (pm_cmp om_is (pm_var 6) (pm_non) (nomark _)) (pma_cons (pm_str) (pma_cons (pm_if (pmt_cmp om_is (pm_var 6) (pm_non) (nomark _)) (pm_int) (pm_var 6)) (pma_nil))))))))))))))))
theorem sc_lw_bad_door : FnScope ["_law_row", "_law_zones", "_law_far", "_law_some"] ["_law_row", "_law_zones"] (defScope st_lw_bad_door) := ⟨rfl, rfl, rfl, by decide +kernel, rfl, by decide +kernel, by decide +kernel⟩
theorem ok_lw_bad_door (T : Tx K mg cls) (c1 : Cal P w K mg base cls "_law_taken" 1 ["_law_row", "_law_many"] m_lw_taken) : Cal P w K mg base cls "_law_bad_door" 2 ["_law_row", "_law_zones"] m_lw_bad_door := by
  obtain ⟨f1, fd1, g1, k1, b1, G1⟩ := c1.ex
  obtain ⟨f, fd, g, k, F, b⟩ := T.d_lw_bad_door.ex
  refine ⟨f, fd, g, k, b, okM F sc_lw_bad_door rfl rfl (by decide) fun cdv A outer s H E hr => ?_⟩
  have sc := sc_lw_bad_door
  have h1 := hr.mono (show 1 ≤ 1 by decide)
  exact pms_cons (pm_set (i := 2) sc.nd rfl (by first | exact Or.inl rfl | exact Or.inr rfl) (pm_op (om_mul rfl) (pm_call G1 h1 g1 k1 b1 (fun σ => passAt (takes_of rfl rfl rfl rfl) σ) (pma_cons (pm_var 0) (pma_cons (pm_op (om_pow) (pm_int) (pm_int)) (pma_nil)))) (pm_call G1 h1 g1 k1 b1 (fun σ => passAt (takes_of rfl rfl rfl rfl) σ) (pma_cons (pm_var 0) (pma_cons (pm_int) (pma_nil)))))) (pms_cons (pm_set (i := 3) sc.nd rfl (by first | exact Or.inl rfl | exact Or.inr rfl) (pm_lst (pma_cons (pm_tup (pma_cons (pm_int) (pma_cons (pm_int) (pma_cons (pm_int) (pma_cons (pm_int) (pma_cons (pm_int) (pma_nil))))))) (pma_cons (pm_tup (pma_cons (pm_op (om_sub) (pm_neg (pm_int)) (pm_var 2)) (pma_cons (pm_int) (pma_cons (pm_int) (pma_cons (pm_int) (pma_cons (pm_int) (pma_nil))))))) (pma_cons (pm_tup (pma_cons (pm_int) (pma_cons (pm_op (om_add rfl) (pm_var 1) (pm_var 2)) (pma_cons (pm_int) (pma_cons (pm_int) (pma_cons (pm_int) (pma_nil))))))) (pma_cons (pm_tup (pma_cons (pm_int) (pma_cons (pm_int) (pma_cons (pm_int) (pma_cons (pm_int) (pma_cons (pm_int) (pma_nil))))))) (pma_cons (pm_tup (pma_cons (pm_int) (pma_cons (pm_int) (pma_cons (pm_int) (pma_cons (pm_int) (pma_cons (pm_int) (pma_nil))))))) (pma_nil)))))))) (pms_cons (pm_set (i := 3) sc.nd rfl (by first | exact Or.inl rfl | exact Or.inr rfl) (pm_op (om_add rfl) (pm_var 3) (pm_lst (pma_cons (pm_tup (pma_cons (pm_int) (pma_cons (pm_int) (pma_cons (pm_op (om_add rfl) (pm_int) (pm_var 2)) (pma_cons (pm_int) (pma_cons (pm_int) (pma_nil))))))) (pma_cons (pm_tup (pma_cons (pm_int) (pma_cons (pm_int) (pma_cons (pm_int) (pma_cons (pm_int) (pma_cons (pm_int) (pma_nil))))))) (pma_cons (pm_tup (pma_cons (pm_int) (pma_cons (pm_int) (pma_cons (pm_int) (pma_cons (pm_int) (pma_cons (pm_int) (pma_nil))))))) (pma_cons (pm_tup (pma_cons (pm_int) (pma_cons (pm_int) (pma_cons (pm_int) (pma_cons (pm_op (om_sub) (pm_neg (pm_int)) (pm_var 2)) (pma_cons (pm_int) (pma_nil))))))) (pma_nil)))))))) (pms_one (pm_ret (pm_ix rfl (pm_op (om_add rfl) (pm_var 3) (pm_lst (pma_cons (pm_tup (pma_cons (pm_int) (pma_cons (pm_int) (pma_cons (pm_int) (pma_cons (pm_int) (pma_cons (pm_op (om_add rfl) (pm_int) (pm_var 2)) (pma_nil))))))) (pma_nil)))) (pm_call G1 h1 g1 k1 b1 (fun σ => passAt (takes_of rfl rfl rfl rfl) σ) (pma_cons (pm_var 0) (pma_cons (pm_int) (pma_nil)))))))))
theorem sc_lw_bad_person : FnScope ["_law_row", "_law_house_here", "_law_at", "_law_name", "_law_begin_zone", "_law_goal", "_law_most", "_law_since", "_law_free_here", "_law_led", "_law_zones", "_law_far", "_law_bad", "_law_some"] ["_law_row", "_law_house_here", "_law_at"] (defScope st_lw_bad_person) := ⟨rfl, rfl, rfl, by decide +kernel, rfl, by decide +kernel, by decide +kernel⟩
theorem ok_lw_bad_person (T : Tx K mg cls) (c1 : Cal P w K mg base cls "_law_taken" 1 ["_law_row", "_law_many"] m_lw_taken) : Cal P w K mg base cls "_law_bad_person" 2 ["_law_row", "_law_house_here", "_law_at"] m_lw_bad_person := by
  obtain ⟨f1, fd1, g1, k1, b1, G1⟩ := c1.ex
  obtain ⟨f, fd, g, k, F, b⟩ := T.d_lw_bad_person.ex
  refine ⟨f, fd, g, k, b, okM F sc_lw_bad_person rfl rfl (by decide) fun cdv A outer s H E hr => ?_⟩
  have sc := sc_lw_bad_person
  have h1 := hr.mono (show 1 ≤ 1 by decide)
  exact pms_cons (pm_asg (pm_ix rfl (pm_ix rfl (pm_var 1) (pm_int)) (pm_var 2)) (pmg_tup rfl rfl (pmgs_cons (pmg_name (i := 3) sc.nd rfl (by first | exact Or.inl rfl | exact Or.inr rfl)) (pmgs_cons (pmg_name (i := 4) sc.nd rfl (by first | exact Or.inl rfl | exact Or.inr rfl)) (pmgs_cons (pmg_name (i := 5) sc.nd rfl (by first | exact Or.inl rfl | exact Or.inr rfl)) (pmgs_cons (pmg_name (i := 6) sc.nd rfl (by first | exact Or.inl rfl | exact Or.inr rfl)) (pmgs_cons (pmg_name (i := 7) sc.nd rfl (by first | exact Or.inl rfl | exact Or.inr rfl)) (pmgs_cons (pmg_name (i := 8) sc.nd rfl (by first | exact Or.inl rfl | exact Or.inr rfl)) (pmgs_cons (pmg_name (i := 9) sc.nd rfl (by first | exact Or.inl rfl | exact Or.inr rfl)) (pmgs_nil)))))))))) (pms_cons (pm_set (i := 10) sc.nd rfl (by first | exact Or.inl rfl | exact Or.inr rfl) (pm_ix rfl (pm_var 1) (pm_int))) (pms_cons (pm_set (i := 11) sc.nd rfl (by first | exact Or.inl rfl | exact Or.inr rfl) (pm_call G1 h1 g1 k1 b1 (fun σ => passAt (takes_of rfl rfl rfl rfl) σ) (pma_cons (pm_var 0) (pma_cons (pm_op (om_pow) (pm_int) (pm_int)) (pma_nil))))) (pms_cons (pm_set (i := 12) sc.nd rfl (by first | exact Or.inl rfl | exact Or.inr rfl) (pm_ix rfl (pm_lst (pma_cons (pm_str) (pma_cons (pm_str) (pma_cons (pm_str) (pma_cons (pm_str) (pma_cons (pm_str) (pma_nil))))))) (pm_call G1 h1 g1 k1 b1 (fun σ => passAt (takes_of rfl rfl rfl rfl) σ) (pma_cons (pm_var 0) (pma_cons (pm_int) (pma_nil)))))) (pms_cons (pm_set (i := 13) sc.nd rfl (by first | exact Or.inl rfl | exact Or.inr rfl) (pm_lst (pma_cons (pm_tup (pma_cons (pm_var 12) (pma_cons (pm_int) (pma_cons (pm_var 5) (pma_cons (pm_var 6) (pma_cons (pm_var 7) (pma_cons (pm_var 8) (pma_cons (pm_var 9) (pma_nil))))))))) (pma_cons (pm_tup (pma_cons (pm_var 3) (pma_cons (pm_op (om_sub) (pm_op (om_sub) (pm_int) (pm_var 11)) (pm_int)) (pma_cons (pm_var 5) (pma_cons (pm_var 6) (pma_cons (pm_var 7) (pma_cons (pm_var 8) (pma_cons (pm_var 9) (pma_nil))))))))) (pma_nil))))) (pms_cons (pm_set (i := 13) sc.nd rfl (by first | exact Or.inl rfl | exact Or.inr rfl) (pm_op (om_add rfl) (pm_var 13) (pm_lst (pma_cons (pm_tup (pma_cons (pm_var 3) (pma_cons (pm_op (om_add rfl) (pm_var 10) (pm_var 11)) (pma_cons (pm_var 5) (pma_cons (pm_var 6) (pma_cons (pm_var 7) (pma_cons (pm_var 8) (pma_cons (pm_var 9) (pma_nil))))))))) (pma_cons (pm_tup (pma_cons (pm_var 3) (pma_cons (pm_int) (pma_cons (pm_op (om_sub) (pm_neg (pm_int)) (pm_var 11)) (pma_cons (pm_var 6) (pma_cons (pm_var 7) (pma_cons (pm_var 8) (pma_cons (pm_var 9) (pma_nil))))))))) (pma_nil)))))) (pms_cons (pm_set (i := 13) sc.nd rfl (by first | exact Or.inl rfl | exact Or.inr rfl) (pm_op (om_add rfl) (pm_var 13) (pm_lst (pma_cons (pm_tup (pma_cons (pm_var 3) (pma_cons (pm_int) (pma_cons (pm_op (om_add rfl) (pm_var 10) (pm_var 11)) (pma_cons (pm_var 6) (pma_cons (pm_var 7) (pma_cons (pm_var 8) (pma_cons (pm_var 9) (pma_nil))))))))) (pma_cons (pm_tup (pma_cons (pm_var 3) (pma_cons (pm_int) (pma_cons (pm_var 5) (pma_cons (pm_op (om_sub) (pm_neg (pm_int)) (pm_var 11)) (pma_cons (pm_var 7) (pma_cons (pm_var 8) (pma_cons (pm_var 9) (pma_nil))))))))) (pma_nil)))))) (pms_cons (pm_set (i := 13) sc.nd rfl (by first | exact Or.inl rfl | exact Or.inr rfl) (pm_op (om_add rfl) (pm_var 13) (pm_lst (pma_cons (pm_tup (pma_cons (pm_var 3) (pma_cons (pm_int) (pma_cons (pm_var 5) (pma_cons (pm_op (om_add rfl) (pm_int) (pm_var 11)) (pma_cons (pm_var 7) (pma_cons (pm_var 8) (pma_cons (pm_var 9) (pma_nil))))))))) (pma_cons (pm_tup (pma_cons (pm_var 3) (pma_cons (pm_int) (pma_cons (pm_var 5) (pma_cons (pm_var 6) (pma_cons (pm_op (om_sub) (pm_neg (pm_int)) (pm_var 11)) (pma_cons (pm_var 8) (pma_cons (pm_var 9) (pma_nil))))))))) (pma_nil)))))) (pms_cons (pm_set (i := 13) sc.nd rfl (by first | exact Or.inl rfl | exact Or.inr rfl) (pm_op (om_add rfl) (pm_var 13) (pm_lst (pma_cons (pm_tup (pma_cons (pm_var 3) (pma_cons (pm_int) (pma_cons (pm_var 5) (pma_cons (pm_var 6) (pma_cons (pm_op (om_add rfl) (pm_int) (pm_var 11)) (pma_cons (pm_var 8) (pma_cons (pm_var 9) (pma_nil))))))))) (pma_cons (pm_tup (pma_cons (pm_var 3) (pma_cons (pm_int) (pma_cons (pm_var 5) (pma_cons (pm_var 6) (pma_cons (pm_var 7) (pma_cons (pm_tup (pma_cons (pm_int) (pma_nil))) (pma_cons (pm_tup (pma_nil)) (pma_nil))))))))) (pma_nil)))))) (pms_cons (pm_set (i := 13) sc.nd rfl (by first | exact Or.inl rfl | exact Or.inr rfl) (pm_op (om_add rfl) (pm_var 13) (pm_lst (pma_cons (pm_tup (pma_cons (pm_var 3) (pma_cons (pm_int) (pma_cons (pm_var 5) (pma_cons (pm_var 6) (pma_cons (pm_var 7) (pma_cons (pm_tup (pma_nil)) (pma_cons (pm_tup (pma_cons (pm_int) (pma_nil))) (pma_nil))))))))) (pma_cons (pm_tup (pma_cons (pm_var 3) (pma_cons (pm_int) (pma_cons (pm_var 5) (pma_cons (pm_var 6) (pma_cons (pm_var 7) (pma_cons (pm_tup (pma_cons (pm_op (om_add rfl) (pm_var 10) (pm_var 11)) (pma_nil))) (pma_cons (pm_tup (pma_nil)) (pma_nil))))))))) (pma_nil)))))) (pms_cons (pm_set (i := 13) sc.nd rfl (by first | exact Or.inl rfl | exact Or.inr rfl) (pm_op (om_add rfl) (pm_var 13) (pm_lst (pma_cons (pm_tup (pma_cons (pm_var 3) (pma_cons (pm_int) (pma_cons (pm_var 5) (pma_cons (pm_var 6) (pma_cons (pm_var 7) (pma_cons (pm_tup (pma_nil)) (pma_cons (pm_tup (pma_cons (pm_op (om_sub) (pm_neg (pm_int)) (pm_var 11)) (pma_nil))) (pma_nil))))))))) (pma_cons (pm_tup (pma_cons (pm_var 3) (pma_cons (pm_int) (pma_cons (pm_var 5) (pma_cons (pm_var 6) (pma_cons (pm_var 7) (pma_cons (pm_tup (pma_nil)) (pma_cons (pm_tup (pma_cons (pm_op (om_add rfl) (pm_var 10) (pm_var 11)) (pma_nil))) (pma_nil))))))))) (pma_nil)))))) (pms_cons (pms_if (pmt_cmp om_gt (pm_var 10) (pm_int) (nomark _)) (pms_one (pm_set (i := 13) sc.nd rfl (by first | exact Or.inl rfl | exact Or.inr rfl) (pm_op (om_add rfl) (pm_var 13) (pm_lst (pma_cons (pm_tup (pma_cons (pm_var 3) (pma_cons (pm_int) (pma_cons (pm_var 5) (pma_cons (pm_var 6) (pma_cons (pm_var 7) (pma_cons (pm_tup (pma_cons (pm_int) (pma_nil))) (pma_cons (pm_tup (pma_cons (pm_int) (pma_nil))) (pma_nil))))))))) (pma_cons (pm_tup (pma_cons (pm_var 3) (pma_cons (pm_int) (pma_cons (pm_var 5) (pma_cons (pm_var 6) (pma_cons (pm_var 7) (pma_cons (pm_tup (pma_cons (pm_int) (pma_cons (pm_int) (pma_nil)))) (pma_cons (pm_tup (pma_nil)) (pma_nil))))))))) (pma_nil))))))) (pms_nil)) (pms_cons (pms_if (pmt_cmp om_gt (pm_var 10) (pm_int) (nomark _)) (pms_one (pm_set (i := 13) sc.nd rfl (by first | exact Or.inl rfl | exact Or.inr rfl) (pm_op (om_add rfl) (pm_var 13) (pm_lst (pma_cons (pm_tup (pma_cons (pm_var 3) (pma_cons (pm_int) (pma_cons (pm_var 5) (pma_cons (pm_var 6) (pma_cons (pm_var 7) (pma_cons (pm_tup (pma_cons (pm_int) (pma_cons (pm_int) (pma_nil)))) (pma_cons (pm_tup (pma_nil)) (pma_nil))))))))) (pma_cons (pm_tup (pma_cons (pm_var 3) (pma_cons (pm_int) (pma_cons (pm_var 5) (pma_cons (pm_var 6) (pma_cons (pm_var 7) (pma_cons (pm_tup (pma_nil)) (pma_cons (pm_tup (pma_cons (pm_int) (pma_cons (pm_int) (pma_nil)))) (pma_nil))))))))) (pma_nil))))))) (pms_nil)) (pms_one (pm_ret (pm_ix rfl (pm_var 13) (pm_call G1 h1 g1 k1 b1 (fun σ => passAt (takes_of rfl rfl rfl rfl) σ) (pma_cons (pm_var 0) (pma_cons (pm_callB (cm_len rfl) T.n_len bt_len (pma_cons (pm_var 13) (pma_nil))) (pma_nil)))))))))))))))))))
theorem sc_lw_wrong : FnScope ["_law_row", "_law_house_here", "_law_zones", "_law_hours", "_law_doors", "_law_people", "_law_far", "_law_way", "_law_bad", "_law_at", "_law_made_here", "_law_safe", "_law_person_here"] ["_law_row", "_law_house_here"] (defScope st_lw_wrong) := ⟨rfl, rfl, rfl, by decide +kernel, rfl, by decide +kernel, by decide +kernel⟩
theorem ok_lw_wrong (T : Tx K mg cls) (c1 : Cal P w K mg base cls "_law_taken" 1 ["_law_row", "_law_many"] m_lw_taken) (c2 : Cal P w K mg base cls "_law_bad_door" 2 ["_law_row", "_law_zones"] m_lw_bad_door) (c3 : Cal P w K mg base cls "_law_bad_person" 2 ["_law_row", "_law_house_here", "_law_at"] m_lw_bad_person) : Cal P w K mg base cls "_law_wrong" 3 ["_law_row", "_law_house_here"] m_lw_wrong := by
  obtain ⟨f1, fd1, g1, k1, b1, G1⟩ := c1.ex
  obtain ⟨f2, fd2, g2, k2, b2, G2⟩ := c2.row.ex
  obtain ⟨f3, fd3, g3, k3, b3, G3⟩ := c3.row.ex
  obtain ⟨f, fd, g, k, F, b⟩ := T.d_lw_wrong.ex
  refine ⟨f, fd, g, k, b, okM F sc_lw_wrong rfl rfl (by decide) fun cdv A outer s H E hr => ?_⟩
  have sc := sc_lw_wrong
  have h1 := hr.mono (show 1 ≤ 2 by decide)
  have h2 := hr.mono (show 2 ≤ 2 by decide)
  have h3 := hr.mono (show 2 ≤ 2 by decide)
  exact pms_cons (pm_asg (pm_var 1) (pmg_tup rfl rfl (pmgs_cons (pmg_name (i := 2) sc.nd rfl (by first | exact Or.inl rfl | exact Or.inr rfl)) (pmgs_cons (pmg_name (i := 3) sc.nd rfl (by first | exact Or.inl rfl | exact Or.inr rfl)) (pmgs_cons (pmg_name (i := 4) sc.nd rfl (by first | exact Or.inl rfl | exact Or.inr rfl)) (pmgs_cons (pmg_name (i := 5) sc.nd rfl (by first | exact Or.inl rfl | exact Or.inr rfl)) (pmgs_nil))))))) (pms_cons (pm_set (i := 6) sc.nd rfl (by first | exact Or.inl rfl | exact Or.inr rfl) (pm_call G1 h1 g1 k1 b1 (fun σ => passAt (takes_of rfl rfl rfl rfl) σ) (pma_cons (pm_var 0) (pma_cons (pm_op (om_pow) (pm_int) (pm_int)) (pma_nil))))) (pms_cons (pm_set (i := 7) sc.nd rfl (by first | exact Or.inl rfl | exact Or.inr rfl) (pm_call G1 h1 g1 k1 b1 (fun σ => passAt (takes_of rfl rfl rfl rfl) σ) (pma_cons (pm_var 0) (pma_cons (pm_int) (pma_nil))))) (pms_cons (pms_if (pmt_cmp (om_eq rfl hr.units) (pm_var 7) (pm_int) (nomark _)) (pms_cons (pm_set (i := 8) sc.nd rfl (by first | exact Or.inl rfl | exact Or.inr rfl) (pm_ix rfl (pm_lst (pma_cons (pm_tup (pma_cons (pm_op (om_sub) (pm_int) (pm_var 6)) (pma_cons (pm_var 3) (pma_nil)))) (pma_cons (pm_tup (pma_cons (pm_op (om_add rfl) (pm_int) (pm_var 6)) (pma_cons (pm_var 3) (pma_nil)))) (pma_cons (pm_tup (pma_cons (pm_var 2) (pma_cons (pm_op (om_sub) (pm_neg (pm_int)) (pm_var 6)) (pma_nil)))) (pma_cons (pm_tup (pma_cons (pm_var 2) (pma_cons (pm_op (om_add rfl) (pm_int) (pm_var 6)) (pma_nil)))) (pma_nil)))))) (pm_call G1 h1 g1 k1 b1 (fun σ => passAt (takes_of rfl rfl rfl rfl) σ) (pma_cons (pm_var 0) (pma_cons (pm_int) (pma_nil)))))) (pms_one (pm_ret (pm_tup (pma_cons (pm_op (om_add rfl) (pm_var 8) (pm_tup (pma_cons (pm_op (om_mul rfl) (pm_lst (pma_cons (pm_tup (pma_cons (pm_int) (pma_cons (pm_int) (pma_cons (pm_int) (pma_cons (pm_int) (pma_cons (pm_int) (pma_nil))))))) (pma_nil))) (pm_int)) (pma_cons (pm_lst (pma_nil)) (pma_nil))))) (pma_cons (pm_str) (pma_cons (pm_int) (pma_nil)))))))) (pms_nil)) (pms_cons (pms_if (pmt_cmp (om_eq rfl hr.units) (pm_var 7) (pm_int) (nomark _)) (pms_one (pm_ret (pm_tup (pma_cons (pm_tup (pma_cons (pm_var 2) (pma_cons (pm_var 3) (pma_cons (pm_op (om_mul rfl) (pm_lst (pma_cons (pm_tup (pma_cons (pm_int) (pma_cons (pm_int) (pma_cons (pm_int) (pma_cons (pm_int) (pma_cons (pm_int) (pma_nil))))))) (pma_nil))) (pm_int)) (pma_cons (pm_lst (pma_nil)) (pma_nil)))))) (pma_cons (pm_str) (pma_cons (pm_int) (pma_nil))))))) (pms_nil)) (pms_cons (pms_if (pmt_cmp (om_eq rfl hr.units) (pm_var 7) (pm_int) (nomark _)) (pms_one (pm_ret (pm_tup (pma_cons (pm_tup (pma_cons (pm_var 2) (pma_cons (pm_var 3) (pma_cons (pm_lst (pma_cons (pm_tup (pma_cons (pm_int) (pma_cons (pm_int) (pma_cons (pm_int) (pma_cons (pm_int) (pma_cons (pm_int) (pma_nil))))))) (pma_nil))) (pma_cons (pm_ix rfl (pm_lst (pma_cons (pm_lst (pma_nil)) (pma_cons (pm_op (om_mul rfl) (pm_slice rfl (pm_var 5) (pmo_none) (pmo_some (pm_int))) (pm_int)) (pma_nil)))) (pm_call G1 h1 g1 k1 b1 (fun σ => passAt (takes_of rfl rfl rfl rfl) σ) (pma_cons (pm_var 0) (pma_cons (pm_int) (pma_nil))))) (pma_nil)))))) (pma_cons (pm_str) (pma_cons (pm_int) (pma_nil))))))) (pms_nil)) (pms_cons (pms_if (pmt_cmp om_lt (pm_var 7) (pm_int) (nomark _)) (pms_cons (pm_set (i := 9) sc.nd rfl (by first | exact Or.inl rfl | exact Or.inr rfl) (pm_call G1 h1 g1 k1 b1 (fun σ => passAt (takes_of rfl rfl rfl rfl) σ) (pma_cons (pm_var 0) (pma_cons (pm_op (om_add rfl) (pm_callB (cm_min rfl) T.n_min bt_min (pma_cons (pm_int) (pma_cons (pm_callB (cm_len rfl) T.n_len bt_len (pma_cons (pm_var 4) (pma_nil))) (pma_nil)))) (pm_int)) (pma_nil))))) (pms_cons (pm_set (i := 10) sc.nd rfl (by first | exact Or.inl rfl | exact Or.inr rfl) (pm_op (om_add rfl) (pm_op (om_add rfl) (pm_slice rfl (pm_var 4) (pmo_none) (pmo_some (pm_var 9))) (pm_lst (pma_cons (pm_call G2 h2 g2 k2 b2 (fun σ => passAt (takes_of rfl rfl rfl rfl) σ) (pma_cons (pm_var 0) (pma_cons (pm_var 2) (pma_nil)))) (pma_nil)))) (pm_slice rfl (pm_var 4) (pmo_some (pm_var 9)) (pmo_some (pm_int))))) (pms_one (pm_ret (pm_tup (pma_cons (pm_tup (pma_cons (pm_var 2) (pma_cons (pm_var 3) (pma_cons (pm_var 10) (pma_cons (pm_op (om_add rfl) (pm_slice rfl (pm_var 5) (pmo_none) (pmo_some (pm_int))) (pm_op (om_mul rfl) (pm_lst (pma_cons (pm_tup (pma_cons (pm_str) (pma_cons (pm_int) (pma_cons (pm_int) (pma_cons (pm_int) (pma_cons (pm_int) (pma_cons (pm_tup (pma_nil)) (pma_cons (pm_tup (pma_nil)) (pma_nil))))))))) (pma_nil))) (pm_op (om_sub) (pm_var 7) (pm_int)))) (pma_nil)))))) (pma_cons (pm_str) (pma_cons (pm_var 9) (pma_nil))))))))) (pms_nil)) (pms_cons (pm_set (i := 9) sc.nd rfl (by first | exact Or.inl rfl | exact Or.inr rfl) (pm_call G1 h1 g1 k1 b1 (fun σ => passAt (takes_of rfl rfl rfl rfl) σ) (pma_cons (pm_var 0) (pma_cons (pm_callB (cm_len rfl) T.n_len bt_len (pma_cons (pm_var 5) (pma_nil))) (pma_nil))))) (pms_cons (pms_if (pmt_cmp om_lt (pm_var 7) (pm_int) (nomark _)) (pms_cons (pm_set (i := 10) sc.nd rfl (by first | exact Or.inl rfl | exact Or.inr rfl) (pm_op (om_add rfl) (pm_op (om_add rfl) (pm_slice rfl (pm_var 5) (pmo_none) (pmo_some (pm_var 9))) (pm_lst (pma_cons (pm_call G3 h3 g3 k3 b3 (fun σ => passAt (takes_of rfl rfl rfl rfl) σ) (pma_cons (pm_var 0) (pma_cons (pm_var 1) (pma_cons (pm_var 9) (pma_nil))))) (pma_nil)))) (pm_slice rfl (pm_var 5) (pmo_some (pm_op (om_add rfl) (pm_var 9) (pm_int))) (pmo_none)))) (pms_one (pm_ret (pm_tup (pma_cons (pm_tup (pma_cons (pm_var 2) (pma_cons (pm_var 3) (pma_cons (pm_var 4) (pma_cons (pm_var 10) (pma_nil)))))) (pma_cons (pm_str) (pma_cons (pm_var 9) (pma_nil)))))))) (pms_nil)) (pms_cons (pms_if (pmt_bool (pmt_and (pmt_cmp (om_eq rfl hr.units) (pm_var 7) (pm_int) (nomark _)) (pmt_and1 (pmt_cmp om_lt (pm_callB (cm_len rfl) T.n_len bt_len (pma_cons (pm_var 5) (pma_nil))) (pm_int) (nomark _))))) (pms_one (pm_ret (pm_tup (pma_cons (pm_tup (pma_cons (pm_var 2) (pma_cons (pm_var 3) (pma_cons (pm_var 4) (pma_cons (pm_op (om_add rfl) (pm_var 5) (pm_lst (pma_cons (pm_ix rfl (pm_var 5) (pm_var 9)) (pma_nil)))) (pma_nil)))))) (pma_cons (pm_str) (pma_cons (pm_callB (cm_len rfl) T.n_len bt_len (pma_cons (pm_var 5) (pma_nil))) (pma_nil))))))) (pms_nil)) (pms_cons (pm_setLcC (i := 11) rfl sc.nd rfl rfl (sw_true rfl rfl rfl (by decide +kernel)) (own := [("_law_person_here", 12)]) (G := gName 12) (pmi_items rfl (pm_var 5)) (blkOk_by (N := ["_law_row", "_law_house_here", "_law_zones", "_law_hours", "_law_doors", "_law_people", "_law_far", "_law_way", "_law_bad", "_law_at", "_law_made_here", "_law_safe", "_law_person_here"]) (sc := defScope st_lw_wrong) (by decide +kernel)) (tgLc_name (by decide)) (fun _ _ _ _ _ => pg_name (i := 12) sc.nd rfl (by first | exact Or.inl rfl | exact Or.inr rfl)) (fun _ _ _ _ _ => pmts_nil) (fun _ _ _ _ _ => pm_op (om_add rfl) (pm_op (om_add rfl) (pm_slice rfl (pm_var 12) (pmo_none) (pmo_some (pm_int))) (pm_tup (pma_cons (pm_int) (pma_nil)))) (pm_slice rfl (pm_var 12) (pmo_some (pm_int)) (pmo_none)))) (pms_cons (pms_if (pmt_cmp (om_eq rfl hr.units) (pm_var 2) (pm_int) (nomark _)) (pms_one (pm_ret (pm_tup (pma_cons (pm_tup (pma_cons (pm_int) (pma_cons (pm_var 3) (pma_cons (pm_var 4) (pma_cons (pm_var 5) (pma_nil)))))) (pma_cons (pm_str) (pma_cons (pm_int) (pma_nil))))))) (pms_nil)) (pms_cons (pm_put (pm_var 11) (pm_var 9) (pm_tup (pma_cons (pm_ix rfl (pm_ix rfl (pm_var 11) (pm_var 9)) (pm_int)) (pma_cons (pm_int) (pma_cons (pm_neg (pm_int)) (pma_cons (pm_int) (pma_cons (pm_int) (pma_cons (pm_tup (pma_nil)) (pma_cons (pm_tup (pma_cons (pm_int) (pma_nil))) (pma_nil)))))))))) (pms_cons (pms_if (pmt_cmp (om_eq rfl hr.units) (pm_var 7) (pm_int) (nomark _)) (pms_one (pm_put (pm_var 11) (pm_var 9) (pm_tup (pma_cons (pm_ix rfl (pm_ix rfl (pm_var 11) (pm_var 9)) (pm_int)) (pma_cons (pm_int) (pma_cons (pm_neg (pm_int)) (pma_cons (pm_int) (pma_cons (pm_int) (pma_cons (pm_tup (pma_nil)) (pma_cons (pm_tup (pma_nil)) (pma_nil))))))))))) (pms_nil)) (pms_frz 11 (pms_one (pm_ret (pm_tup (pma_cons (pm_tup (pma_cons (pm_var 2) (pma_cons (pm_var 3) (pma_cons (pm_var 4) (pma_cons (pm_var 11) (pma_nil)))))) (pma_cons (pm_str) (pma_cons (pm_var 9) (pma_nil)))))))))))))))))))))
theorem sc_lw_made : FnScope ["_law_house_here"] ["_law_house_here"] (defScope st_lw_made) := ⟨rfl, rfl, rfl, by decide +kernel, rfl, by decide +kernel, by decide +kernel⟩
theorem ok_lw_made (T : Tx K mg cls) (c1 : ICal P w K mg base cls 0 5 ["self", "zones", "hours", "doors", "people"] m_House_init_01) : Cal P w K mg base cls "_law_made" 7 ["_law_house_here"] m_lw_made_01 := by
  obtain ⟨f1, fd1, k1, b1, G1⟩ := c1.ex
  obtain ⟨f, fd, g, k, F, b⟩ := T.d_lw_made.ex
  refine ⟨f, fd, g, k, b, okM F sc_lw_made rfl rfl (by decide) fun cdv A outer s H E hr => ?_⟩
  have sc := sc_lw_made
  have h1 := hr.mono (show 6 ≤ 6 by decide)
  exact pms_one (pm_ret (pm_frz (pm_make 0 (E := _) (fun _ _ _ _ z => z) k1 G1 h1 T.k_House b1 (passes_call (takes_of rfl rfl rfl rfl) (fun _ _ _ _ z => z)) (pma_cons (pm_ix rfl (pm_var 0) (pm_int)) (pma_cons (pm_ix rfl (pm_var 0) (pm_int)) (pma_cons (pm_callTy (cm_list rfl) T.n_list bt_list (pma_cons (pm_ix rfl (pm_var 0) (pm_int)) (pma_nil))) (pma_cons (pm_callTy (cm_list rfl) T.n_list bt_list (pma_cons (pm_ix rfl (pm_var 0) (pm_int)) (pma_nil))) (pma_nil))))))))
theorem sc_lw_refused : FnScope ["_law_house_here", "e", "_law_others"] ["_law_house_here"] (defScope st_lw_refused) := ⟨rfl, rfl, rfl, by decide +kernel, rfl, by decide +kernel, by decide +kernel⟩
theorem ok_lw_refused (T : Tx K mg cls) (c1 : Cal P w K mg base cls "_law_made" 7 ["_law_house_here"] m_lw_made_01) : Cal P w K mg base cls "_law_refused" 8 ["_law_house_here"] m_lw_refused_11 := by
  obtain ⟨f1, fd1, g1, k1, b1, G1⟩ := c1.pure.ex
  obtain ⟨f, fd, g, k, F, b⟩ := T.d_lw_refused.ex
  refine ⟨f, fd, g, k, b, okM F sc_lw_refused rfl rfl (by decide) fun cdv A outer s H E hr => ?_⟩
  have sc := sc_lw_refused
  have h1 := hr.mono (show 7 ≤ 7 by decide)
  exact pms_cons (pms_try (i := 1) (j := 7) rfl rfl sc.nd rfl rfl ⟨rfl, by decide, Or.inl T.k_BookError⟩ (takes_of rfl rfl rfl rfl) rfl (T.exa.ht (by decide) (by decide)) (fun W pn xe tk _ => pms_one (pm_expr (pm_call G1 h1 g1 k1 b1 (fun σ => passAt tk σ) (pma_cons (pm_var 0) (pma_nil))))) (fun a oe c d pn hz hf => pms_cons (pm_set (i := 2) sc.nd rfl (by first | exact Or.inl rfl | exact Or.inr rfl) (pm_callB (cm_isE T.exa rfl rfl hz hf) T.n_isinstance bt_isi (pma_cons (pm_var 1) (pma_cons (pm_tup (pma_cons (pm_gcls (n := 3) T.k_BadStep) (pma_cons (pm_gcls (n := 6) T.k_BadText) (pma_cons (pm_gcls (n := 4) T.k_Barred) (pma_cons (pm_gcls (n := 5) T.k_Left) (pma_nil)))))) (pma_nil))))) (pms_one (pms_if (pmt_bool (pmt_and (pmt_val (pm_callB (cm_isE T.exa rfl rfl hz hf) T.n_isinstance bt_isi (pma_cons (pm_var 1) (pma_cons (pm_gcls (n := 2) T.k_BadHouse) (pma_nil))))) (pmt_and (pmt_val (pm_callB (cm_isE T.exa rfl rfl hz hf) T.n_isinstance bt_isi (pma_cons (pm_var 1) (pma_cons (pm_bty T.n_ValueError bt_ve) (pma_nil))))) (pmt_and1 (pmt_not (pmt_val (pm_var 2))))))) (pms_one (pm_ret (pm_tup (pma_cons (pm_xf T.exa rfl rfl hz hf (pm_var 1)) (pma_cons (pm_xf T.exa rfl rfl hz hf (pm_var 1)) (pma_nil)))))) (pms_nil))))) (pms_one (pm_ret (pm_non)))
theorem sc_House_doors : FnScope ["self"] ["self"] (defScope st_House_doors) := ⟨rfl, rfl, rfl, by decide +kernel, rfl, by decide +kernel, by decide +kernel⟩
theorem ok_House_doors (T : Tx K mg cls)  : MCal P w K mg base cls 0 "doors" 1 ["self"] m_House_doorsC := by
  obtain ⟨f, fd, g, F, b⟩ := T.d_House_doors.ex
  refine ⟨f, fd, g, b, okM F sc_House_doors rfl rfl (by decide) fun cdv A outer s H E hr => ?_⟩
  have sc := sc_House_doors
  exact pms_one (pm_ret (pm_callTy (cm_listC rfl) T.n_list bt_list (pma_cons (pm_fld 0 2 rfl (T.c0.ok (by decide)) rfl (pm_var 0)) (pma_nil))))
theorem sc_House_people : FnScope ["self"] ["self"] (defScope st_House_people) := ⟨rfl, rfl, rfl, by decide +kernel, rfl, by decide +kernel, by decide +kernel⟩
theorem ok_House_people (T : Tx K mg cls)  : MCal P w K mg base cls 0 "people" 1 ["self"] m_House_peopleC := by
  obtain ⟨f, fd, g, F, b⟩ := T.d_House_people.ex
  refine ⟨f, fd, g, b, okM F sc_House_people rfl rfl (by decide) fun cdv A outer s H E hr => ?_⟩
  have sc := sc_House_people
  exact pms_one (pm_ret (pm_callTy (cm_listC rfl) T.n_list bt_list (pma_cons (pm_fld 0 3 rfl (T.c0.ok (by decide)) rfl (pm_var 0)) (pma_nil))))
theorem sc_law : FnScope ["_law_script", "_law_row", "_law_house_here", "_law_handed", "_law_told", "_law_turn", "_law_wrong_here", "_law_word", "_law_number", "_law_people", "_law_great"] ["_law_script"] (defScope st_law) := ⟨rfl, rfl, rfl, by decide +kernel, rfl, by decide +kernel, by decide +kernel⟩
theorem ok_law (T : Tx K mg cls) {f : Addr} {fd : FuncData} (F : Fun K "law" "law" st_law f fd) (c1 : Cal P w K mg base cls "_law_house" 3 ["_law_row"] m_lw_house) (c2 : ICal P w K mg base cls 0 5 ["self", "zones", "hours", "doors", "people"] m_House_init_01) (c3 : MCal P w K mg base cls 0 "doors" 1 ["self"] m_House_doorsC) (c4 : MCal P w K mg base cls 0 "people" 1 ["self"] m_House_peopleC) (c5 : MCal P w K mg base cls 0 "doors" 1 ["self"] m_House_doorsC) (c6 : MCal P w K mg base cls 0 "people" 1 ["self"] m_House_peopleC) (c7 : Cal P w K mg base cls "_law_wrong" 3 ["_law_row", "_law_house_here"] m_lw_wrong) (c8 : Cal P w K mg base cls "_law_refused" 8 ["_law_house_here"] m_lw_refused_11) : FnOk P w K mg base CX0 9 f fd ["_law_script"] (spM0 (gam P w K cls) m_law_11) := by
  obtain ⟨f1, fd1, g1, k1, b1, G1⟩ := c1.row.ex
  obtain ⟨f2, fd2, k2, b2, G2⟩ := c2.ex
  obtain ⟨f3, fd3, g3, b3, G3⟩ := c3.fz.pure.ex
  obtain ⟨f4, fd4, g4, b4, G4⟩ := c4.fz.pure.ex
  obtain ⟨f5, fd5, g5, b5, G5⟩ := c5.ex
  obtain ⟨f6, fd6, g6, b6, G6⟩ := c6.ex
  obtain ⟨f7, fd7, g7, k7, b7, G7⟩ := c7.row.ex
  obtain ⟨f8, fd8, g8, k8, b8, G8⟩ := c8.pure.ex
  refine okL F sc_law rfl rfl (by decide) fun cdv A outer s H E hr => ?_
  have sc := sc_law
  have h1 := hr.mono (show 3 ≤ 8 by decide)
  have h2 := hr.mono (show 6 ≤ 8 by decide)
  have h3 := hr.mono (show 1 ≤ 8 by decide)
  have h4 := hr.mono (show 1 ≤ 8 by decide)
  have h5 := hr.mono (show 1 ≤ 8 by decide)
  have h6 := hr.mono (show 1 ≤ 8 by decide)
  have h7 := hr.mono (show 3 ≤ 8 by decide)
  have h8 := hr.mono (show 8 ≤ 8 by decide)
  exact pms_cons (pm_set (i := 1) sc.nd rfl (by first | exact Or.inl rfl | exact Or.inr rfl) (pm_lstC (pma_cons (pm_var 0) (pma_cons (pm_int) (pma_cons (pm_int) (pma_nil)))))) (pms_cons (pm_set (i := 2) sc.nd rfl (by first | exact Or.inl rfl | exact Or.inr rfl) (pm_call G1 h1 g1 k1 b1 (fun σ => passAt takes0 σ) (pma_cons (pm_var 1) (pma_nil)))) (pms_cons (pm_set (i := 3) sc.nd rfl (by first | exact Or.inl rfl | exact Or.inr rfl) (pm_lst (pma_cons (pm_callTy (cm_listC rfl) T.n_list bt_list (pma_cons (pm_ix rfl (pm_var 2) (pm_int)) (pma_nil))) (pma_cons (pm_callTy (cm_listC rfl) T.n_list bt_list (pma_cons (pm_ix rfl (pm_var 2) (pm_int)) (pma_nil))) (pma_nil))))) (pms_cons (pm_set (i := 4) sc.nd rfl (by first | exact Or.inl rfl | exact Or.inr rfl) (pm_frz (pm_make 0 (E := _) (fun _ _ _ _ z => z.elim) k2 G2 h2 T.k_House b2 (passes_call (W := fun _ _ _ _ => False) (E := fun _ _ _ => False) takes0 (fun _ _ _ _ z => z)) (pma_cons (pm_ix rfl (pm_var 2) (pm_int)) (pma_cons (pm_ix rfl (pm_var 2) (pm_int)) (pma_cons (pm_ix rfl (pm_var 3) (pm_int)) (pma_cons (pm_ix rfl (pm_var 3) (pm_int)) (pma_nil)))))))) (pms_cons (pms_if (pmt_cmp (om_ne rfl hr.units) (pm_var 3) (pm_lst (pma_cons (pm_ix rfl (pm_var 2) (pm_int)) (pma_cons (pm_ix rfl (pm_var 2) (pm_int)) (pma_nil)))) (nomark _)) (pms_one (pm_ret (pm_bl))) (pms_nil)) (pms_cons (pms_for PassesOwn.never rfl (pmi_rng1 T.n_range (pma_cons (pm_int) (pma_nil))) (pmg_name (i := 5) sc.nd rfl (by first | exact Or.inl rfl | exact Or.inr rfl)) (pms_cons (pms_if (pmt_bool (pmt_or (pmt_cmp (om_ne rfl hr.units) (pm_meth0 0 rfl (T.c0.ok (by decide)) (by show ¬ (_ ∈ fldsT 0); decide +kernel) (fun _ _ _ _ z => z.elim) (pm_var 4) g3 G3 h3 b3 (passes_call (W := fun _ _ _ _ => False) (E := fun _ _ _ => False) takes0 (fun _ _ _ _ z => z))) (pm_ix rfl (pm_var 2) (pm_int)) (nomark _)) (pmt_or1 (pmt_cmp (om_ne rfl hr.units) (pm_meth0 0 rfl (T.c0.ok (by decide)) (by show ¬ (_ ∈ fldsT 0); decide +kernel) (fun _ _ _ _ z => z.elim) (pm_var 4) g4 G4 h4 b4 (passes_call (W := fun _ _ _ _ => False) (E := fun _ _ _ => False) takes0 (fun _ _ _ _ z => z))) (pm_ix rfl (pm_var 2) (pm_int)) (nomark _))))) (pms_one (pm_ret (pm_bl))) (pms_nil)) (pms_cons (pm_expr (pm_bm rfl ms_append PySem.F.plainAttrs_list PySem.F.slot_list_append PySem.F.type_list_append (pm_meth0 0 rfl (T.c0.ok (by decide)) (by show ¬ (_ ∈ fldsT 0); decide +kernel) (fun _ _ _ _ z => z.elim) (pm_var 4) g5 G5 h5 b5 (passes_call (W := fun _ _ _ _ => False) (E := fun _ _ _ => False) takes0 (fun _ _ _ _ z => z))) (pma_cons (pm_int) (pma_nil)))) (pms_cons (pm_expr (pm_bm0 rfl ms_clear PySem.F.plainAttrs_list PySem.F.slot_list_clear PySem.F.type_list_clear (pm_meth0 0 rfl (T.c0.ok (by decide)) (by show ¬ (_ ∈ fldsT 0); decide +kernel) (fun _ _ _ _ z => z.elim) (pm_var 4) g6 G6 h6 b6 (passes_call (W := fun _ _ _ _ => False) (E := fun _ _ _ => False) takes0 (fun _ _ _ _ z => z))))) (pms_cons (pm_expr (pm_bm0 rfl ms_clear PySem.F.plainAttrs_list PySem.F.slot_list_clear PySem.F.type_list_clear (pm_ix rfl (pm_var 3) (pm_int)))) (pms_one (pm_expr (pm_bm0 rfl ms_clear PySem.F.plainAttrs_list PySem.F.slot_list_clear PySem.F.type_list_clear (pm_ix rfl (pm_var 3) (pm_int)))))))))) (pms_cons (pm_asg (pm_call G7 h7 g7 k7 b7 (fun σ => passAt takes0 σ) (pma_cons (pm_var 1) (pma_cons (pm_var 2) (pma_nil)))) (pmg_tup rfl rfl (pmgs_cons (pmg_name (i := 6) sc.nd rfl (by first | exact Or.inl rfl | exact Or.inr rfl)) (pmgs_cons (pmg_name (i := 7) sc.nd rfl (by first | exact Or.inl rfl | exact Or.inr rfl)) (pmgs_cons (pmg_name (i := 8) sc.nd rfl (by first | exact Or.inl rfl | exact Or.inr rfl)) (pmgs_nil)))))) (pms_cons (pms_if (pmt_cmp (om_ne rfl hr.units) (pm_call G8 h8 g8 k8 b8 (fun σ => passAt takes0 σ) (pma_cons (pm_var 6) (pma_nil))) (pm_tup (pma_cons (pm_var 7) (pma_cons (pm_var 8) (pma_nil)))) (nomark _)) (pms_one (pm_ret (pm_bl))) (pms_nil)) (pms_cons (pm_set (i := 9) sc.nd rfl (by first | exact Or.inl rfl | exact Or.inr rfl) (pm_lstC (pma_cons (pm_tup (pma_cons (pm_str) (pma_cons (pm_int) (pma_cons (pm_neg (pm_int)) (pma_cons (pm_int) (pma_cons (pm_int) (pma_cons (pm_tup (pma_cons (pm_int) (pma_cons (pm_int) (pma_cons (pm_int) (pma_nil))))) (pma_cons (pm_tup (pma_nil)) (pma_nil))))))))) (pma_cons (pm_tup (pma_cons (pm_str) (pma_cons (pm_int) (pma_cons (pm_int) (pma_cons (pm_int) (pma_cons (pm_int) (pma_cons (pm_tup (pma_nil)) (pma_cons (pm_tup (pma_cons (pm_int) (pma_cons (pm_int) (pma_cons (pm_int) (pma_nil))))) (pma_nil))))))))) (pma_cons (pm_tup (pma_cons (pm_str) (pma_cons (pm_int) (pma_cons (pm_int) (pma_cons (pm_int) (pma_cons (pm_int) (pma_cons (pm_tup (pma_nil)) (pma_cons (pm_tup (pma_cons (pm_int) (pma_nil))) (pma_nil))))))))) (pma_nil)))))) (pms_cons (pm_expr (pm_bm rfl ms_append PySem.F.plainAttrs_list PySem.F.slot_list_append PySem.F.type_list_append (pm_var 9) (pma_cons (pm_tup (pma_cons (pm_str) (pma_cons (pm_int) (pma_cons (pm_int) (pma_cons (pm_int) (pma_cons (pm_int) (pma_cons (pm_tup (pma_cons (pm_int) (pma_nil))) (pma_cons (pm_tup (pma_cons (pm_int) (pma_cons (pm_int) (pma_nil)))) (pma_nil))))))))) (pma_nil)))) (pms_frz 9 (pms_cons (pm_set (i := 10) sc.nd rfl (by first | exact Or.inl rfl | exact Or.inr rfl) (pm_tup (pma_cons (pm_int) (pma_cons (pm_int) (pma_cons (pm_op (om_mul rfl) (pm_lst (pma_cons (pm_tup (pma_cons (pm_int) (pma_cons (pm_int) (pma_cons (pm_int) (pma_cons (pm_int) (pma_cons (pm_int) (pma_nil))))))) (pma_cons (pm_tup (pma_cons (pm_int) (pma_cons (pm_int) (pma_cons (pm_int) (pma_cons (pm_int) (pma_cons (pm_int) (pma_nil))))))) (pma_cons (pm_tup (pma_cons (pm_int) (pma_cons (pm_int) (pma_cons (pm_int) (pma_cons (pm_int) (pma_cons (pm_int) (pma_nil))))))) (pma_nil))))) (pm_int)) (pma_cons (pm_var 9) (pma_nil))))))) (pms_one (pm_ret (pm_and (pm_cmp om_is (pm_call G8 h8 g8 k8 b8 (fun σ => passAt takes0 σ) (pma_cons (pm_var 10) (pma_nil))) (pm_non) (nomark _)) (pm_one (pm_cmp om_is (pm_call G8 h8 g8 k8 b8 (fun σ => passAt takes0 σ) (pma_cons (pm_tup (pma_cons (pm_int) (pma_cons (pm_int) (pma_cons (pm_lst (pma_nil)) (pma_cons (pm_lst (pma_cons (pm_tup (pma_cons (pm_str) (pma_cons (pm_int) (pma_cons (pm_int) (pma_cons (pm_int) (pma_cons (pm_int) (pma_cons (pm_tup (pma_nil)) (pma_cons (pm_tup (pma_nil)) (pma_nil))))))))) (pma_nil))) (pma_nil)))))) (pma_nil))) (pm_non) (nomark _)))))))))))))))))
theorem ok_all (T : Tx K mg cls) {f : Addr} {fd : FuncData} (F : Fun K "law" "law" st_law f fd) : FnOk P w K mg base CX0 9 f fd ["_law_script"] (spM0 (gam P w K cls) m_law_11) := by
  have z_lw_taken : Cal P w K mg base cls "_law_taken" 1 ["_law_row", "_law_many"] m_lw_taken := ok_lw_taken T 
  have z_lw_names : Cal P w K mg base cls "_law_names" 2 ["_law_row"] m_lw_names := ok_lw_names T z_lw_taken
  have z_lw_person : Cal P w K mg base cls "_law_person" 2 ["_law_row", "_law_name", "_law_zones"] m_lw_person := ok_lw_person T z_lw_taken
  have z_lw_free : Cal P w K mg base cls "_law_free" 1 ["_law_house_here", "_law_person_here", "_law_zone"] m_lw_free := ok_lw_free T 
  have z_lw_left : Cal P w K mg base cls "_law_left" 2 ["_law_house_here", "_law_state"] m_lw_left := ok_lw_left T z_lw_free
  have z_lw_house : Cal P w K mg base cls "_law_house" 3 ["_law_row"] m_lw_house := ok_lw_house T z_lw_taken z_lw_names z_lw_person z_lw_left
  have z_BadHouse_init : EICal P w K mg base cls 2 2 1 ["self", "word", "number"] := ok_BadHouse_init T 
  have z_must : Cal P w K mg base cls "must" 3 ["good", "word", "number"] m_must := ok_must T z_BadHouse_init
  have z_is_free : Cal P w K mg base cls "is_free" 1 ["house", "person", "zone"] m_is_free := ok_is_free T 
  have z_may_be : Cal P w K mg base cls "may_be" 2 ["house", "person", "zone"] m_may_be := ok_may_be T z_is_free
  have z_led_ones : Cal P w K mg base cls "led_ones" 2 ["house", "persons", "zones"] m_led_ones := ok_led_ones T z_is_free
  have z_can_lead : Cal P w K mg base cls "can_lead" 3 ["house", "persons", "zones"] m_can_lead_01 := ok_can_lead T z_led_ones
  have z_left_one : Cal P w K mg base cls "left_one" 4 ["house", "state"] m_left_one_01 := ok_left_one T z_may_be z_is_free z_led_ones z_can_lead
  have z_House_is_door : MCal P w K mg base cls 0 "is_door" 1 ["self", "door"] m_House_is_door := ok_House_is_door T 
  have z_is_name : Cal P w K mg base cls "is_name" 1 ["text"] m_is_name := ok_is_name T 
  have z_House_is_person : MCal P w K mg base cls 0 "is_person" 2 ["self", "number"] m_House_is_person := ok_House_is_person T z_is_name
  have z_House_init : ICal P w K mg base cls 0 5 ["self", "zones", "hours", "doors", "people"] m_House_init_01 := ok_House_init T z_must z_House_is_door z_House_is_person z_left_one
  have z_lw_bad_door : Cal P w K mg base cls "_law_bad_door" 2 ["_law_row", "_law_zones"] m_lw_bad_door := ok_lw_bad_door T z_lw_taken
  have z_lw_bad_person : Cal P w K mg base cls "_law_bad_person" 2 ["_law_row", "_law_house_here", "_law_at"] m_lw_bad_person := ok_lw_bad_person T z_lw_taken
  have z_lw_wrong : Cal P w K mg base cls "_law_wrong" 3 ["_law_row", "_law_house_here"] m_lw_wrong := ok_lw_wrong T z_lw_taken z_lw_bad_door z_lw_bad_person
  have z_lw_made : Cal P w K mg base cls "_law_made" 7 ["_law_house_here"] m_lw_made_01 := ok_lw_made T z_House_init
  have z_lw_refused : Cal P w K mg base cls "_law_refused" 8 ["_law_house_here"] m_lw_refused_11 := ok_lw_refused T z_lw_made
  have z_House_doors : MCal P w K mg base cls 0 "doors" 1 ["self"] m_House_doorsC := ok_House_doors T 
  have z_House_people : MCal P w K mg base cls 0 "people" 1 ["self"] m_House_peopleC := ok_House_people T 
  exact ok_law T F z_lw_house z_House_init z_House_doors z_House_people z_House_doors z_House_people z_lw_wrong z_lw_refused
end
end Eb

namespace Eb
open PySem L2
theorem all_mk {l : PySem.W.OpenLaw} {w : World} {K : PySem.W.Frag} {h : Heap} {mg : Str → Option Value} {fa : Addr} {C0 C2 C3 C4 C5 C6 C7 f0 f1 f2 f3 f4 f5 f6 f7 f8 f9 f10 f11 f12 f13 f14 f15 f16 f17 f18 f19 f20 f21 f22 f23 f24 : Addr} (X : K.In h) (G : h.Ns mainGlobals mg) (hfa : mg "law" = some (.ref fa))
    {od0 an0 : Option Addr} {sl0 : Array (Option Value)} {oc0 kV0 dc0 pm0 cd0 ct0 : Value}
    {od1 an1 : Option Addr} {sl1 : Array (Option Value)} {oc1 kV1 dc1 pm1 cd1 ct1 : Value}
    {od2 an2 : Option Addr} {sl2 : Array (Option Value)} {oc2 kV2 dc2 pm2 cd2 ct2 : Value}
    {od3 an3 : Option Addr} {sl3 : Array (Option Value)} {oc3 kV3 dc3 pm3 cd3 ct3 : Value}
    {od4 an4 : Option Addr} {sl4 : Array (Option Value)} {oc4 kV4 dc4 pm4 cd4 ct4 : Value}
    {od5 an5 : Option Addr} {sl5 : Array (Option Value)} {oc5 kV5 dc5 pm5 cd5 ct5 : Value}
    {od6 an6 : Option Addr} {sl6 : Array (Option Value)} {oc6 kV6 dc6 pm6 cd6 ct6 : Value}
    {od7 an7 : Option Addr} {sl7 : Array (Option Value)} {oc7 kV7 dc7 pm7 cd7 ct7 : Value}
    {od8 an8 : Option Addr} {sl8 : Array (Option Value)} {oc8 kV8 dc8 pm8 cd8 ct8 : Value}
    {od9 an9 : Option Addr} {sl9 : Array (Option Value)} {oc9 kV9 dc9 pm9 cd9 ct9 : Value}
    {od10 an10 : Option Addr} {sl10 : Array (Option Value)} {oc10 kV10 dc10 pm10 cd10 ct10 : Value}
    {od11 an11 : Option Addr} {sl11 : Array (Option Value)} {oc11 kV11 dc11 pm11 cd11 ct11 : Value}
    {od12 an12 : Option Addr} {sl12 : Array (Option Value)} {oc12 kV12 dc12 pm12 cd12 ct12 : Value}
    {od13 an13 : Option Addr} {sl13 : Array (Option Value)} {oc13 kV13 dc13 pm13 cd13 ct13 : Value}
    {od14 an14 : Option Addr} {sl14 : Array (Option Value)} {oc14 kV14 dc14 pm14 cd14 ct14 : Value}
    {od15 an15 : Option Addr} {sl15 : Array (Option Value)} {oc15 kV15 dc15 pm15 cd15 ct15 : Value}
    {od16 an16 : Option Addr} {sl16 : Array (Option Value)} {oc16 kV16 dc16 pm16 cd16 ct16 : Value}
    {od17 an17 : Option Addr} {sl17 : Array (Option Value)} {oc17 kV17 dc17 pm17 cd17 ct17 : Value}
    {od18 an18 : Option Addr} {sl18 : Array (Option Value)} {oc18 kV18 dc18 pm18 cd18 ct18 : Value}
    {od19 an19 : Option Addr} {sl19 : Array (Option Value)} {oc19 kV19 dc19 pm19 cd19 ct19 : Value}
    {od20 an20 : Option Addr} {sl20 : Array (Option Value)} {oc20 kV20 dc20 pm20 cd20 ct20 : Value}
    {od21 an21 : Option Addr} {sl21 : Array (Option Value)} {oc21 kV21 dc21 pm21 cd21 ct21 : Value}
    {od22 an22 : Option Addr} {sl22 : Array (Option Value)} {oc22 kV22 dc22 pm22 cd22 ct22 : Value}
    {od23 an23 : Option Addr} {sl23 : Array (Option Value)} {oc23 kV23 dc23 pm23 cd23 ct23 : Value}
    {od24 an24 : Option Addr} {sl24 : Array (Option Value)} {oc24 kV24 dc24 pm24 cd24 ct24 : Value}
    {nm2 q2 : Str} {N2 : Addr} {bs2 : List Value} {sn2 : List Str} {sub2 : List Value} {ab2 : Bool} {col2 : Option Bool} {dd2 : Option Addr} {m02 m12 m22 m32 m52 : Option Value}
    {kd2 : ClassData}
    {kd3 : ClassData}
    {kd4 : ClassData}
    {kd5 : ClassData}
    {kd6 : ClassData}
    {tk_BEGIN : Tok}
    {tk_FREE : Tok}
    {tk_LED : Tok}
    {tk_LETTERS : Tok}
    {tk_LONGEST_NAME : Tok}
    {tk_MOST : Tok}
    {tk_MOST_DOORS : Tok}
    {tk_MOST_HOURS : Tok}
    {tk_MOST_PEOPLE : Tok}
    {tk_MOST_WIDE : Tok}
    {tk_MOST_ZONES : Tok}
    {tk_NAME : Tok}
    (aC0 : PySem.W.nsIn K mainGlobals "House" = some (some (.ref C0)))
    (aC2 : PySem.W.nsIn K mainGlobals "BadHouse" = some (some (.ref C2)))
    (aC3 : PySem.W.nsIn K mainGlobals "BadStep" = some (some (.ref C3)))
    (aC4 : PySem.W.nsIn K mainGlobals "Barred" = some (some (.ref C4)))
    (aC5 : PySem.W.nsIn K mainGlobals "Left" = some (some (.ref C5)))
    (aC6 : PySem.W.nsIn K mainGlobals "BadText" = some (some (.ref C6)))
    (aC7 : PySem.W.nsIn K mainGlobals "BookError" = some (some (.ref C7)))
    (a0 : PySem.W.nsIn K mainGlobals "_law_taken" = some (some (.ref f0)))
    (l0 : K.lookup f0 = some ⟨oc0, od0, .func (PySem.W.fnOf "_law_taken" "_law_taken" (defArgs st_lw_taken) (defBody st_lw_taken) (defScope st_lw_taken) .none kV0 dc0 pm0 an0 cd0 ct0), sl0⟩)
    (c0 : PySem.W.codeIn K cd0 "_law_taken" = true)
    (k0 : PySem.W.keepIn K (.ref f0) = true)
    (a1 : PySem.W.nsIn K mainGlobals "_law_names" = some (some (.ref f1)))
    (l1 : K.lookup f1 = some ⟨oc1, od1, .func (PySem.W.fnOf "_law_names" "_law_names" (defArgs st_lw_names) (defBody st_lw_names) (defScope st_lw_names) .none kV1 dc1 pm1 an1 cd1 ct1), sl1⟩)
    (c1 : PySem.W.codeIn K cd1 "_law_names" = true)
    (k1 : PySem.W.keepIn K (.ref f1) = true)
    (a2 : PySem.W.nsIn K mainGlobals "_law_person" = some (some (.ref f2)))
    (l2 : K.lookup f2 = some ⟨oc2, od2, .func (PySem.W.fnOf "_law_person" "_law_person" (defArgs st_lw_person) (defBody st_lw_person) (defScope st_lw_person) .none kV2 dc2 pm2 an2 cd2 ct2), sl2⟩)
    (c2 : PySem.W.codeIn K cd2 "_law_person" = true)
    (k2 : PySem.W.keepIn K (.ref f2) = true)
    (a3 : PySem.W.nsIn K mainGlobals "_law_free" = some (some (.ref f3)))
    (l3 : K.lookup f3 = some ⟨oc3, od3, .func (PySem.W.fnOf "_law_free" "_law_free" (defArgs st_lw_free) (defBody st_lw_free) (defScope st_lw_free) .none kV3 dc3 pm3 an3 cd3 ct3), sl3⟩)
    (c3 : PySem.W.codeIn K cd3 "_law_free" = true)
    (k3 : PySem.W.keepIn K (.ref f3) = true)
    (a4 : PySem.W.nsIn K mainGlobals "_law_left" = some (some (.ref f4)))
    (l4 : K.lookup f4 = some ⟨oc4, od4, .func (PySem.W.fnOf "_law_left" "_law_left" (defArgs st_lw_left) (defBody st_lw_left) (defScope st_lw_left) .none kV4 dc4 pm4 an4 cd4 ct4), sl4⟩)
    (c4 : PySem.W.codeIn K cd4 "_law_left" = true)
    (k4 : PySem.W.keepIn K (.ref f4) = true)
    (a5 : PySem.W.nsIn K mainGlobals "_law_house" = some (some (.ref f5)))
    (l5 : K.lookup f5 = some ⟨oc5, od5, .func (PySem.W.fnOf "_law_house" "_law_house" (defArgs st_lw_house) (defBody st_lw_house) (defScope st_lw_house) .none kV5 dc5 pm5 an5 cd5 ct5), sl5⟩)
    (c5 : PySem.W.codeIn K cd5 "_law_house" = true)
    (k5 : PySem.W.keepIn K (.ref f5) = true)
    (a6 : PySem.W.findIn K (.ref C2) "__init__" = some (some (.ref f6)))
    (i6 : PySem.W.typeIn K (.ref f6) = some (.type "function"))
    (l6 : K.lookup f6 = some ⟨oc6, od6, .func (PySem.W.fnOf "__init__" "BadHouse.__init__" (defArgs st_BadHouse_init) (defBody st_BadHouse_init) (defScope st_BadHouse_init) .none kV6 dc6 pm6 an6 cd6 ct6), sl6⟩)
    (c6 : PySem.W.codeIn K cd6 "BadHouse.__init__" = true)
    (k6 : PySem.W.keepIn K (.ref f6) = true)
    (a7 : PySem.W.nsIn K mainGlobals "must" = some (some (.ref f7)))
    (l7 : K.lookup f7 = some ⟨oc7, od7, .func (PySem.W.fnOf "must" "must" (defArgs st_must) (defBody st_must) (defScope st_must) .none kV7 dc7 pm7 an7 cd7 ct7), sl7⟩)
    (c7 : PySem.W.codeIn K cd7 "must" = true)
    (k7 : PySem.W.keepIn K (.ref f7) = true)
    (a8 : PySem.W.nsIn K mainGlobals "is_free" = some (some (.ref f8)))
    (l8 : K.lookup f8 = some ⟨oc8, od8, .func (PySem.W.fnOf "is_free" "is_free" (defArgs st_is_free) (defBody st_is_free) (defScope st_is_free) .none kV8 dc8 pm8 an8 cd8 ct8), sl8⟩)
    (c8 : PySem.W.codeIn K cd8 "is_free" = true)
    (k8 : PySem.W.keepIn K (.ref f8) = true)
    (a9 : PySem.W.nsIn K mainGlobals "may_be" = some (some (.ref f9)))
    (l9 : K.lookup f9 = some ⟨oc9, od9, .func (PySem.W.fnOf "may_be" "may_be" (defArgs st_may_be) (defBody st_may_be) (defScope st_may_be) .none kV9 dc9 pm9 an9 cd9 ct9), sl9⟩)
    (c9 : PySem.W.codeIn K cd9 "may_be" = true)
    (k9 : PySem.W.keepIn K (.ref f9) = true)
    (a10 : PySem.W.nsIn K mainGlobals "led_ones" = some (some (.ref f10)))
    (l10 : K.lookup f10 = some ⟨oc10, od10, .func (PySem.W.fnOf "led_ones" "led_ones" (defArgs st_led_ones) (defBody st_led_ones) (defScope st_led_ones) .none kV10 dc10 pm10 an10 cd10 ct10), sl10⟩)
    (c10 : PySem.W.codeIn K cd10 "led_ones" = true)
    (k10 : PySem.W.keepIn K (.ref f10) = true)
    (a11 : PySem.W.nsIn K mainGlobals "can_lead" = some (some (.ref f11)))
    (l11 : K.lookup f11 = some ⟨oc11, od11, .func (PySem.W.fnOf "can_lead" "can_lead" (defArgs st_can_lead) (defBody st_can_lead) (defScope st_can_lead) .none kV11 dc11 pm11 an11 cd11 ct11), sl11⟩)
    (c11 : PySem.W.codeIn K cd11 "can_lead" = true)
    (k11 : PySem.W.keepIn K (.ref f11) = true)
    (a12 : PySem.W.nsIn K mainGlobals "left_one" = some (some (.ref f12)))
    (l12 : K.lookup f12 = some ⟨oc12, od12, .func (PySem.W.fnOf "left_one" "left_one" (defArgs st_left_one) (defBody st_left_one) (defScope st_left_one) .none kV12 dc12 pm12 an12 cd12 ct12), sl12⟩)
    (c12 : PySem.W.codeIn K cd12 "left_one" = true)
    (k12 : PySem.W.keepIn K (.ref f12) = true)
    (a13 : PySem.W.findIn K (.ref C0) "is_door" = some (some (.ref f13)))
    (i13 : PySem.W.isFn K (.ref f13) = true)
    (l13 : K.lookup f13 = some ⟨oc13, od13, .func (PySem.W.fnOf "is_door" "House.is_door" (defArgs st_House_is_door) (defBody st_House_is_door) (defScope st_House_is_door) .none kV13 dc13 pm13 an13 cd13 ct13), sl13⟩)
    (c13 : PySem.W.codeIn K cd13 "House.is_door" = true)
    (k13 : PySem.W.keepIn K (.ref f13) = true)
    (a14 : PySem.W.nsIn K mainGlobals "is_name" = some (some (.ref f14)))
    (l14 : K.lookup f14 = some ⟨oc14, od14, .func (PySem.W.fnOf "is_name" "is_name" (defArgs st_is_name) (defBody st_is_name) (defScope st_is_name) .none kV14 dc14 pm14 an14 cd14 ct14), sl14⟩)
    (c14 : PySem.W.codeIn K cd14 "is_name" = true)
    (k14 : PySem.W.keepIn K (.ref f14) = true)
    (a15 : PySem.W.findIn K (.ref C0) "is_person" = some (some (.ref f15)))
    (i15 : PySem.W.isFn K (.ref f15) = true)
    (l15 : K.lookup f15 = some ⟨oc15, od15, .func (PySem.W.fnOf "is_person" "House.is_person" (defArgs st_House_is_person) (defBody st_House_is_person) (defScope st_House_is_person) .none kV15 dc15 pm15 an15 cd15 ct15), sl15⟩)
    (c15 : PySem.W.codeIn K cd15 "House.is_person" = true)
    (k15 : PySem.W.keepIn K (.ref f15) = true)
    (a16 : PySem.W.findIn K (.ref C0) "__init__" = some (some (.ref f16)))
    (i16 : PySem.W.isFn K (.ref f16) = true)
    (l16 : K.lookup f16 = some ⟨oc16, od16, .func (PySem.W.fnOf "__init__" "House.__init__" (defArgs st_House_init) (defBody st_House_init) (defScope st_House_init) .none kV16 dc16 pm16 an16 cd16 ct16), sl16⟩)
    (c16 : PySem.W.codeIn K cd16 "House.__init__" = true)
    (k16 : PySem.W.keepIn K (.ref f16) = true)
    (a17 : PySem.W.nsIn K mainGlobals "_law_bad_door" = some (some (.ref f17)))
    (l17 : K.lookup f17 = some ⟨oc17, od17, .func (PySem.W.fnOf "_law_bad_door" "_law_bad_door" (defArgs st_lw_bad_door) (defBody st_lw_bad_door) (defScope st_lw_bad_door) .none kV17 dc17 pm17 an17 cd17 ct17), sl17⟩)
    (c17 : PySem.W.codeIn K cd17 "_law_bad_door" = true)
    (k17 : PySem.W.keepIn K (.ref f17) = true)
    (a18 : PySem.W.nsIn K mainGlobals "_law_bad_person" = some (some (.ref f18)))
    (l18 : K.lookup f18 = some ⟨oc18, od18, .func (PySem.W.fnOf "_law_bad_person" "_law_bad_person" (defArgs st_lw_bad_person) (defBody st_lw_bad_person) (defScope st_lw_bad_person) .none kV18 dc18 pm18 an18 cd18 ct18), sl18⟩)
    (c18 : PySem.W.codeIn K cd18 "_law_bad_person" = true)
    (k18 : PySem.W.keepIn K (.ref f18) = true)
    (a19 : PySem.W.nsIn K mainGlobals "_law_wrong" = some (some (.ref f19)))
    (l19 : K.lookup f19 = some ⟨oc19, od19, .func (PySem.W.fnOf "_law_wrong" "_law_wrong" (defArgs st_lw_wrong) (defBody st_lw_wrong) (defScope st_lw_wrong) .none kV19 dc19 pm19 an19 cd19 ct19), sl19⟩)
    (c19 : PySem.W.codeIn K cd19 "_law_wrong" = true)
    (k19 : PySem.W.keepIn K (.ref f19) = true)
    (a20 : PySem.W.nsIn K mainGlobals "_law_made" = some (some (.ref f20)))
    (l20 : K.lookup f20 = some ⟨oc20, od20, .func (PySem.W.fnOf "_law_made" "_law_made" (defArgs st_lw_made) (defBody st_lw_made) (defScope st_lw_made) .none kV20 dc20 pm20 an20 cd20 ct20), sl20⟩)
    (c20 : PySem.W.codeIn K cd20 "_law_made" = true)
    (k20 : PySem.W.keepIn K (.ref f20) = true)
    (a21 : PySem.W.nsIn K mainGlobals "_law_refused" = some (some (.ref f21)))
    (l21 : K.lookup f21 = some ⟨oc21, od21, .func (PySem.W.fnOf "_law_refused" "_law_refused" (defArgs st_lw_refused) (defBody st_lw_refused) (defScope st_lw_refused) .none kV21 dc21 pm21 an21 cd21 ct21), sl21⟩)
    (c21 : PySem.W.codeIn K cd21 "_law_refused" = true)
    (k21 : PySem.W.keepIn K (.ref f21) = true)
    (a22 : PySem.W.findIn K (.ref C0) "doors" = some (some (.ref f22)))
    (i22 : PySem.W.isFn K (.ref f22) = true)
    (l22 : K.lookup f22 = some ⟨oc22, od22, .func (PySem.W.fnOf "doors" "House.doors" (defArgs st_House_doors) (defBody st_House_doors) (defScope st_House_doors) .none kV22 dc22 pm22 an22 cd22 ct22), sl22⟩)
    (c22 : PySem.W.codeIn K cd22 "House.doors" = true)
    (k22 : PySem.W.keepIn K (.ref f22) = true)
    (a23 : PySem.W.findIn K (.ref C0) "people" = some (some (.ref f23)))
    (i23 : PySem.W.isFn K (.ref f23) = true)
    (l23 : K.lookup f23 = some ⟨oc23, od23, .func (PySem.W.fnOf "people" "House.people" (defArgs st_House_people) (defBody st_House_people) (defScope st_House_people) .none kV23 dc23 pm23 an23 cd23 ct23), sl23⟩)
    (c23 : PySem.W.codeIn K cd23 "House.people" = true)
    (k23 : PySem.W.keepIn K (.ref f23) = true)
    (a24 : PySem.W.nsIn K mainGlobals "law" = some (some (.ref f24)))
    (l24 : K.lookup f24 = some ⟨oc24, od24, .func (PySem.W.fnOf "law" "law" (defArgs st_law) (defBody st_law) (defScope st_law) .none kV24 dc24 pm24 an24 cd24 ct24), sl24⟩)
    (c24 : PySem.W.codeIn K cd24 "law" = true)
    (k24 : PySem.W.keepIn K (.ref f24) = true)
    (pg0 : PySem.W.plainGet K C0 Str.empty = true)
    (hd0 : PySem.W.hasDictIn K C0 = true)
    (po0 : PySem.W.plainOver K C0 = true)
    (sa0 : PySem.W.findIn K (.ref C0) "__setattr__" = some (some (.builtin "object.__setattr__")))
    (mk0 : PySem.W.makesIn K C0 = true)
    (kc0 : PySem.W.keepIn K (.ref C0) = true)
    (nf0_0 : PySem.W.findIn K (.ref C0) "zones" = some none)
    (nf0_1 : PySem.W.findIn K (.ref C0) "hours" = some none)
    (nf0_2 : PySem.W.findIn K (.ref C0) "kept_doors" = some none)
    (nf0_3 : PySem.W.findIn K (.ref C0) "kept_people" = some none)
    (ex2 : PySem.W.subIn K (.ref C2) (.type "BaseException") = some true)
    (ty2 : PySem.W.typeIn K (.ref C2) = some (.type "type"))
    (kc2 : PySem.W.keepIn K (.ref C2) = true)
    (nf2_0 : PySem.W.findIn K (.ref C2) "word" = some none)
    (nf2_1 : PySem.W.findIn K (.ref C2) "number" = some none)
    (sa2 : PySem.W.findIn K (.ref C2) "__setattr__" = some (some (.builtin "object.__setattr__")))
    (xL2 : K.lookup C2 = some (excClassObj nm2 q2 C2 N2 bs2 [.ref C7, .type "ValueError", .type "Exception", .type "BaseException", .type "object"] true sn2 sub2 ab2 col2 dd2 m02 m12 m22 m32 m52 "ValueError.__new__"))
    (ex3 : PySem.W.subIn K (.ref C3) (.type "BaseException") = some true)
    (ty3 : PySem.W.typeIn K (.ref C3) = some (.type "type"))
    (kc3 : PySem.W.keepIn K (.ref C3) = true)
    (ex4 : PySem.W.subIn K (.ref C4) (.type "BaseException") = some true)
    (ty4 : PySem.W.typeIn K (.ref C4) = some (.type "type"))
    (kc4 : PySem.W.keepIn K (.ref C4) = true)
    (nf4_0 : PySem.W.findIn K (.ref C4) "rule" = some none)
    (nf4_1 : PySem.W.findIn K (.ref C4) "number" = some none)
    (nf4_2 : PySem.W.findIn K (.ref C4) "at" = some none)
    (ex5 : PySem.W.subIn K (.ref C5) (.type "BaseException") = some true)
    (ty5 : PySem.W.typeIn K (.ref C5) = some (.type "type"))
    (kc5 : PySem.W.keepIn K (.ref C5) = true)
    (nf5_0 : PySem.W.findIn K (.ref C5) "number" = some none)
    (ex6 : PySem.W.subIn K (.ref C6) (.type "BaseException") = some true)
    (ty6 : PySem.W.typeIn K (.ref C6) = some (.type "type"))
    (kc6 : PySem.W.keepIn K (.ref C6) = true)
    (nf6_0 : PySem.W.findIn K (.ref C6) "row" = some none)
    (ex7 : PySem.W.subIn K (.ref C7) (.type "BaseException") = some true)
    (ty7 : PySem.W.typeIn K (.ref C7) = some (.type "type"))
    (kc7 : PySem.W.keepIn K (.ref C7) = true)
    (rdB : PySem.W.readsIn K C7 (.type "type") = true)
    (gaB : PySem.W.specialIn K (.ref C7) "__getattribute__" = some (some (.builtin "type.__getattribute__")))
    (fiB : PySem.W.findCls K (.ref C7) (.type "type") "__init__" = some (.val (.builtin "ValueError.__init__")))
    (hnX : PySem.W.specialIn K (.builtin "object.__class__") "__get__" = some (some (.builtin "getset_descriptor.__get__")))
    (htX : PySem.W.takesIn K (.builtin "object.__class__") = some true)
    (gaX2 : PySem.W.findIn K (.ref C2) "__getattribute__" = some (some (.builtin "BaseException.__getattribute__")))
    (ggX2 : PySem.W.findIn K (.ref C2) "__getattr__" = some none)
    (hdX2 : PySem.W.hasDictIn K C2 = true)
    (icX2 : PySem.W.clsIn K C2 = some kd2)
    (caX2 : PySem.W.findIn K (.ref C2) "__class__" = some (some (.builtin "object.__class__")))
    (hmX2 : PySem.W.mroIn K C2 (.type "object") = some true)
    (veX2 : PySem.W.kitOne K (.ref C2) (.type "ValueError") = some true)
    (on2_2 : PySem.W.kitOne K (.ref C2) (.ref C2) = some true)
    (em2_2 : PySem.W.exmOne K (.ref C2) (.ref C2) = some true)
    (on2_3 : PySem.W.kitOne K (.ref C2) (.ref C3) = some false)
    (em2_3 : PySem.W.exmOne K (.ref C2) (.ref C3) = some false)
    (on2_4 : PySem.W.kitOne K (.ref C2) (.ref C4) = some false)
    (em2_4 : PySem.W.exmOne K (.ref C2) (.ref C4) = some false)
    (on2_5 : PySem.W.kitOne K (.ref C2) (.ref C5) = some false)
    (em2_5 : PySem.W.exmOne K (.ref C2) (.ref C5) = some false)
    (on2_6 : PySem.W.kitOne K (.ref C2) (.ref C6) = some false)
    (em2_6 : PySem.W.exmOne K (.ref C2) (.ref C6) = some false)
    (on2_7 : PySem.W.kitOne K (.ref C2) (.ref C7) = some true)
    (em2_7 : PySem.W.exmOne K (.ref C2) (.ref C7) = some true)
    (gaX3 : PySem.W.findIn K (.ref C3) "__getattribute__" = some (some (.builtin "BaseException.__getattribute__")))
    (ggX3 : PySem.W.findIn K (.ref C3) "__getattr__" = some none)
    (hdX3 : PySem.W.hasDictIn K C3 = true)
    (icX3 : PySem.W.clsIn K C3 = some kd3)
    (caX3 : PySem.W.findIn K (.ref C3) "__class__" = some (some (.builtin "object.__class__")))
    (hmX3 : PySem.W.mroIn K C3 (.type "object") = some true)
    (veX3 : PySem.W.kitOne K (.ref C3) (.type "ValueError") = some true)
    (on3_2 : PySem.W.kitOne K (.ref C3) (.ref C2) = some false)
    (em3_2 : PySem.W.exmOne K (.ref C3) (.ref C2) = some false)
    (on3_3 : PySem.W.kitOne K (.ref C3) (.ref C3) = some true)
    (em3_3 : PySem.W.exmOne K (.ref C3) (.ref C3) = some true)
    (on3_4 : PySem.W.kitOne K (.ref C3) (.ref C4) = some false)
    (em3_4 : PySem.W.exmOne K (.ref C3) (.ref C4) = some false)
    (on3_5 : PySem.W.kitOne K (.ref C3) (.ref C5) = some false)
    (em3_5 : PySem.W.exmOne K (.ref C3) (.ref C5) = some false)
    (on3_6 : PySem.W.kitOne K (.ref C3) (.ref C6) = some false)
    (em3_6 : PySem.W.exmOne K (.ref C3) (.ref C6) = some false)
    (on3_7 : PySem.W.kitOne K (.ref C3) (.ref C7) = some true)
    (em3_7 : PySem.W.exmOne K (.ref C3) (.ref C7) = some true)
    (gaX4 : PySem.W.findIn K (.ref C4) "__getattribute__" = some (some (.builtin "BaseException.__getattribute__")))
    (ggX4 : PySem.W.findIn K (.ref C4) "__getattr__" = some none)
    (hdX4 : PySem.W.hasDictIn K C4 = true)
    (icX4 : PySem.W.clsIn K C4 = some kd4)
    (caX4 : PySem.W.findIn K (.ref C4) "__class__" = some (some (.builtin "object.__class__")))
    (hmX4 : PySem.W.mroIn K C4 (.type "object") = some true)
    (veX4 : PySem.W.kitOne K (.ref C4) (.type "ValueError") = some true)
    (on4_2 : PySem.W.kitOne K (.ref C4) (.ref C2) = some false)
    (em4_2 : PySem.W.exmOne K (.ref C4) (.ref C2) = some false)
    (on4_3 : PySem.W.kitOne K (.ref C4) (.ref C3) = some false)
    (em4_3 : PySem.W.exmOne K (.ref C4) (.ref C3) = some false)
    (on4_4 : PySem.W.kitOne K (.ref C4) (.ref C4) = some true)
    (em4_4 : PySem.W.exmOne K (.ref C4) (.ref C4) = some true)
    (on4_5 : PySem.W.kitOne K (.ref C4) (.ref C5) = some false)
    (em4_5 : PySem.W.exmOne K (.ref C4) (.ref C5) = some false)
    (on4_6 : PySem.W.kitOne K (.ref C4) (.ref C6) = some false)
    (em4_6 : PySem.W.exmOne K (.ref C4) (.ref C6) = some false)
    (on4_7 : PySem.W.kitOne K (.ref C4) (.ref C7) = some true)
    (em4_7 : PySem.W.exmOne K (.ref C4) (.ref C7) = some true)
    (gaX5 : PySem.W.findIn K (.ref C5) "__getattribute__" = some (some (.builtin "BaseException.__getattribute__")))
    (ggX5 : PySem.W.findIn K (.ref C5) "__getattr__" = some none)
    (hdX5 : PySem.W.hasDictIn K C5 = true)
    (icX5 : PySem.W.clsIn K C5 = some kd5)
    (caX5 : PySem.W.findIn K (.ref C5) "__class__" = some (some (.builtin "object.__class__")))
    (hmX5 : PySem.W.mroIn K C5 (.type "object") = some true)
    (veX5 : PySem.W.kitOne K (.ref C5) (.type "ValueError") = some true)
    (on5_2 : PySem.W.kitOne K (.ref C5) (.ref C2) = some false)
    (em5_2 : PySem.W.exmOne K (.ref C5) (.ref C2) = some false)
    (on5_3 : PySem.W.kitOne K (.ref C5) (.ref C3) = some false)
    (em5_3 : PySem.W.exmOne K (.ref C5) (.ref C3) = some false)
    (on5_4 : PySem.W.kitOne K (.ref C5) (.ref C4) = some false)
    (em5_4 : PySem.W.exmOne K (.ref C5) (.ref C4) = some false)
    (on5_5 : PySem.W.kitOne K (.ref C5) (.ref C5) = some true)
    (em5_5 : PySem.W.exmOne K (.ref C5) (.ref C5) = some true)
    (on5_6 : PySem.W.kitOne K (.ref C5) (.ref C6) = some false)
    (em5_6 : PySem.W.exmOne K (.ref C5) (.ref C6) = some false)
    (on5_7 : PySem.W.kitOne K (.ref C5) (.ref C7) = some true)
    (em5_7 : PySem.W.exmOne K (.ref C5) (.ref C7) = some true)
    (gaX6 : PySem.W.findIn K (.ref C6) "__getattribute__" = some (some (.builtin "BaseException.__getattribute__")))
    (ggX6 : PySem.W.findIn K (.ref C6) "__getattr__" = some none)
    (hdX6 : PySem.W.hasDictIn K C6 = true)
    (icX6 : PySem.W.clsIn K C6 = some kd6)
    (caX6 : PySem.W.findIn K (.ref C6) "__class__" = some (some (.builtin "object.__class__")))
    (hmX6 : PySem.W.mroIn K C6 (.type "object") = some true)
    (veX6 : PySem.W.kitOne K (.ref C6) (.type "ValueError") = some true)
    (on6_2 : PySem.W.kitOne K (.ref C6) (.ref C2) = some false)
    (em6_2 : PySem.W.exmOne K (.ref C6) (.ref C2) = some false)
    (on6_3 : PySem.W.kitOne K (.ref C6) (.ref C3) = some false)
    (em6_3 : PySem.W.exmOne K (.ref C6) (.ref C3) = some false)
    (on6_4 : PySem.W.kitOne K (.ref C6) (.ref C4) = some false)
    (em6_4 : PySem.W.exmOne K (.ref C6) (.ref C4) = some false)
    (on6_5 : PySem.W.kitOne K (.ref C6) (.ref C5) = some false)
    (em6_5 : PySem.W.exmOne K (.ref C6) (.ref C5) = some false)
    (on6_6 : PySem.W.kitOne K (.ref C6) (.ref C6) = some true)
    (em6_6 : PySem.W.exmOne K (.ref C6) (.ref C6) = some true)
    (on6_7 : PySem.W.kitOne K (.ref C6) (.ref C7) = some true)
    (em6_7 : PySem.W.exmOne K (.ref C6) (.ref C7) = some true)
    (g_BEGIN : PySem.W.nsIn K mainGlobals "BEGIN" = some (some (.int 1 tk_BEGIN)))
    (g_FREE : PySem.W.nsIn K mainGlobals "FREE" = some (some (.int 5 tk_FREE)))
    (g_LED : PySem.W.nsIn K mainGlobals "LED" = some (some (.int 6 tk_LED)))
    (g_LETTERS : PySem.W.nsIn K mainGlobals "LETTERS" = some (some (.str "abcdefghijklmnopqrstuvwxyz" tk_LETTERS)))
    (g_LONGEST_NAME : PySem.W.nsIn K mainGlobals "LONGEST_NAME" = some (some (.int 8 tk_LONGEST_NAME)))
    (g_MOST : PySem.W.nsIn K mainGlobals "MOST" = some (some (.int 3 tk_MOST)))
    (g_MOST_DOORS : PySem.W.nsIn K mainGlobals "MOST_DOORS" = some (some (.int 6 tk_MOST_DOORS)))
    (g_MOST_HOURS : PySem.W.nsIn K mainGlobals "MOST_HOURS" = some (some (.int 8 tk_MOST_HOURS)))
    (g_MOST_PEOPLE : PySem.W.nsIn K mainGlobals "MOST_PEOPLE" = some (some (.int 4 tk_MOST_PEOPLE)))
    (g_MOST_WIDE : PySem.W.nsIn K mainGlobals "MOST_WIDE" = some (some (.int 4 tk_MOST_WIDE)))
    (g_MOST_ZONES : PySem.W.nsIn K mainGlobals "MOST_ZONES" = some (some (.int 4 tk_MOST_ZONES)))
    (g_NAME : PySem.W.nsIn K mainGlobals "NAME" = some (some (.int 0 tk_NAME)))
    (n_ValueError : PySem.W.nsIn K mainGlobals "ValueError" = some none)
    (n_int : PySem.W.nsIn K mainGlobals "int" = some none)
    (n_isinstance : PySem.W.nsIn K mainGlobals "isinstance" = some none)
    (n_len : PySem.W.nsIn K mainGlobals "len" = some none)
    (n_list : PySem.W.nsIn K mainGlobals "list" = some none)
    (n_min : PySem.W.nsIn K mainGlobals "min" = some none)
    (n_range : PySem.W.nsIn K mainGlobals "range" = some none)
    (n_set : PySem.W.nsIn K mainGlobals "set" = some none)
    (n_sorted : PySem.W.nsIn K mainGlobals "sorted" = some none)
    (n_sum : PySem.W.nsIn K mainGlobals "sum" = some none)
    (n_tuple : PySem.W.nsIn K mainGlobals "tuple" = some none) :
    ∃ fd : FuncData, (∀ (s : Shared) (v : Value), BindsTo s fd ⟨[v], []⟩ [("_law_script", v)]) ∧ ∀ base : Heap, K.In base → base.Ns mainGlobals mg → FnOk l.prog w K mg base CX0 9 fa fd ["_law_script"] (spLaw K) := by
  have e := hfa.symm.trans (PySem.W.mg_of X G a24)
  cases e
  have na2 : ∀ f ∈ fldsT 2, PySem.W.findIn K (.ref C2) f = some none := fun f hf => by
    simp only [fldsT, List.mem_cons, List.not_mem_nil, or_false] at hf
    rcases hf with rfl | rfl
    · exact nf2_1
    · exact nf2_0
  have O2 : OexC K C2 := ⟨⟨nm2, q2, N2, bs2, _, sn2, sub2, ab2, col2, dd2, m02, m12, m22, m32, m52, xL2, rfl⟩, sa2, ex2, ty2, kc2⟩
  have na3 : ∀ f ∈ fldsT 3, PySem.W.findIn K (.ref C3) f = some none := fun f hf => by
    simp [fldsT] at hf
  have na4 : ∀ f ∈ fldsT 4, PySem.W.findIn K (.ref C4) f = some none := fun f hf => by
    simp only [fldsT, List.mem_cons, List.not_mem_nil, or_false] at hf
    rcases hf with rfl | rfl | rfl
    · exact nf4_2
    · exact nf4_1
    · exact nf4_0
  have na5 : ∀ f ∈ fldsT 5, PySem.W.findIn K (.ref C5) f = some none := fun f hf => by
    simp only [fldsT, List.mem_cons, List.not_mem_nil, or_false] at hf
    rcases hf with rfl
    · exact nf5_0
  have na6 : ∀ f ∈ fldsT 6, PySem.W.findIn K (.ref C6) f = some none := fun f hf => by
    simp only [fldsT, List.mem_cons, List.not_mem_nil, or_false] at hf
    rcases hf with rfl
    · exact nf6_0
  have na7 : ∀ f ∈ fldsT 7, PySem.W.findIn K (.ref C7) f = some none := fun f hf => by
    simp [fldsT] at hf
  have F0 := fun_mk (st := st_lw_taken) l0 c0 k0
  have b0 := F0.binds (ps := ["_law_row", "_law_many"]) fun _ _ _ _ _ _ us hl => match us, hl with | [_, _], _ => rfl
  have F1 := fun_mk (st := st_lw_names) l1 c1 k1
  have b1 := F1.binds (ps := ["_law_row"]) fun _ _ _ _ _ _ us hl => match us, hl with | [_], _ => rfl
  have F2 := fun_mk (st := st_lw_person) l2 c2 k2
  have b2 := F2.binds (ps := ["_law_row", "_law_name", "_law_zones"]) fun _ _ _ _ _ _ us hl => match us, hl with | [_, _, _], _ => rfl
  have F3 := fun_mk (st := st_lw_free) l3 c3 k3
  have b3 := F3.binds (ps := ["_law_house_here", "_law_person_here", "_law_zone"]) fun _ _ _ _ _ _ us hl => match us, hl with | [_, _, _], _ => rfl
  have F4 := fun_mk (st := st_lw_left) l4 c4 k4
  have b4 := F4.binds (ps := ["_law_house_here", "_law_state"]) fun _ _ _ _ _ _ us hl => match us, hl with | [_, _], _ => rfl
  have F5 := fun_mk (st := st_lw_house) l5 c5 k5
  have b5 := F5.binds (ps := ["_law_row"]) fun _ _ _ _ _ _ us hl => match us, hl with | [_], _ => rfl
  have F6 := fun_mk (st := st_BadHouse_init) l6 c6 k6
  have b6 := F6.binds (ps := ["self", "word", "number"]) fun _ _ _ _ _ _ us hl => match us, hl with | [_, _, _], _ => rfl
  have F7 := fun_mk (st := st_must) l7 c7 k7
  have b7 := F7.binds (ps := ["good", "word", "number"]) fun _ _ _ _ _ _ us hl => match us, hl with | [_, _, _], _ => rfl
  have F8 := fun_mk (st := st_is_free) l8 c8 k8
  have b8 := F8.binds (ps := ["house", "person", "zone"]) fun _ _ _ _ _ _ us hl => match us, hl with | [_, _, _], _ => rfl
  have F9 := fun_mk (st := st_may_be) l9 c9 k9
  have b9 := F9.binds (ps := ["house", "person", "zone"]) fun _ _ _ _ _ _ us hl => match us, hl with | [_, _, _], _ => rfl
  have F10 := fun_mk (st := st_led_ones) l10 c10 k10
  have b10 := F10.binds (ps := ["house", "persons", "zones"]) fun _ _ _ _ _ _ us hl => match us, hl with | [_, _, _], _ => rfl
  have F11 := fun_mk (st := st_can_lead) l11 c11 k11
  have b11 := F11.binds (ps := ["house", "persons", "zones"]) fun _ _ _ _ _ _ us hl => match us, hl with | [_, _, _], _ => rfl
  have F12 := fun_mk (st := st_left_one) l12 c12 k12
  have b12 := F12.binds (ps := ["house", "state"]) fun _ _ _ _ _ _ us hl => match us, hl with | [_, _], _ => rfl
  have F13 := fun_mk (st := st_House_is_door) l13 c13 k13
  have b13 := F13.binds (ps := ["self", "door"]) fun _ _ _ _ _ _ us hl => match us, hl with | [_, _], _ => rfl
  have F14 := fun_mk (st := st_is_name) l14 c14 k14
  have b14 := F14.binds (ps := ["text"]) fun _ _ _ _ _ _ us hl => match us, hl with | [_], _ => rfl
  have F15 := fun_mk (st := st_House_is_person) l15 c15 k15
  have b15 := F15.binds (ps := ["self", "number"]) fun _ _ _ _ _ _ us hl => match us, hl with | [_, _], _ => rfl
  have F16 := fun_mk (st := st_House_init) l16 c16 k16
  have b16 := F16.binds (ps := ["self", "zones", "hours", "doors", "people"]) fun _ _ _ _ _ _ us hl => match us, hl with | [_, _, _, _, _], _ => rfl
  have F17 := fun_mk (st := st_lw_bad_door) l17 c17 k17
  have b17 := F17.binds (ps := ["_law_row", "_law_zones"]) fun _ _ _ _ _ _ us hl => match us, hl with | [_, _], _ => rfl
  have F18 := fun_mk (st := st_lw_bad_person) l18 c18 k18
  have b18 := F18.binds (ps := ["_law_row", "_law_house_here", "_law_at"]) fun _ _ _ _ _ _ us hl => match us, hl with | [_, _, _], _ => rfl
  have F19 := fun_mk (st := st_lw_wrong) l19 c19 k19
  have b19 := F19.binds (ps := ["_law_row", "_law_house_here"]) fun _ _ _ _ _ _ us hl => match us, hl with | [_, _], _ => rfl
  have F20 := fun_mk (st := st_lw_made) l20 c20 k20
  have b20 := F20.binds (ps := ["_law_house_here"]) fun _ _ _ _ _ _ us hl => match us, hl with | [_], _ => rfl
  have F21 := fun_mk (st := st_lw_refused) l21 c21 k21
  have b21 := F21.binds (ps := ["_law_house_here"]) fun _ _ _ _ _ _ us hl => match us, hl with | [_], _ => rfl
  have F22 := fun_mk (st := st_House_doors) l22 c22 k22
  have b22 := F22.binds (ps := ["self"]) fun _ _ _ _ _ _ us hl => match us, hl with | [_], _ => rfl
  have F23 := fun_mk (st := st_House_people) l23 c23 k23
  have b23 := F23.binds (ps := ["self"]) fun _ _ _ _ _ _ us hl => match us, hl with | [_], _ => rfl
  have F24 := fun_mk (st := st_law) l24 c24 k24
  have cT0 : ClsT K C0 (fldsT 0) := ⟨⟨pg0, hd0, po0, sa0⟩, fun f hf => by
    simp only [fldsT, List.mem_cons, List.not_mem_nil, or_false] at hf
    rcases hf with rfl | rfl | rfl | rfl
    · exact nf0_0
    · exact nf0_1
    · exact nf0_2
    · exact nf0_3⟩
  have T : Tx K mg (fun c => match c with | 0 => C0 | 2 => C2 | 3 => C3 | 4 => C4 | 5 => C5 | 6 => C6 | 7 => C7 | _ => C0) := {
    d_lw_taken := ⟨_, _, PySem.W.mg_of X G a0, k0, F0, b0⟩
    d_lw_names := ⟨_, _, PySem.W.mg_of X G a1, k1, F1, b1⟩
    d_lw_person := ⟨_, _, PySem.W.mg_of X G a2, k2, F2, b2⟩
    d_lw_free := ⟨_, _, PySem.W.mg_of X G a3, k3, F3, b3⟩
    d_lw_left := ⟨_, _, PySem.W.mg_of X G a4, k4, F4, b4⟩
    d_lw_house := ⟨_, _, PySem.W.mg_of X G a5, k5, F5, b5⟩
    d_BadHouse_init := ⟨⟨_, _, O2, a6, i6, F6, b6⟩, na2⟩
    d_must := ⟨_, _, PySem.W.mg_of X G a7, k7, F7, b7⟩
    d_is_free := ⟨_, _, PySem.W.mg_of X G a8, k8, F8, b8⟩
    d_may_be := ⟨_, _, PySem.W.mg_of X G a9, k9, F9, b9⟩
    d_led_ones := ⟨_, _, PySem.W.mg_of X G a10, k10, F10, b10⟩
    d_can_lead := ⟨_, _, PySem.W.mg_of X G a11, k11, F11, b11⟩
    d_left_one := ⟨_, _, PySem.W.mg_of X G a12, k12, F12, b12⟩
    d_House_is_door := ⟨_, _, ⟨a13, i13, k13⟩, F13, b13⟩
    d_is_name := ⟨_, _, PySem.W.mg_of X G a14, k14, F14, b14⟩
    d_House_is_person := ⟨_, _, ⟨a15, i15, k15⟩, F15, b15⟩
    d_House_init := ⟨_, _, ⟨mk0, a16, i16, kc0⟩, F16, b16⟩
    d_lw_bad_door := ⟨_, _, PySem.W.mg_of X G a17, k17, F17, b17⟩
    d_lw_bad_person := ⟨_, _, PySem.W.mg_of X G a18, k18, F18, b18⟩
    d_lw_wrong := ⟨_, _, PySem.W.mg_of X G a19, k19, F19, b19⟩
    d_lw_made := ⟨_, _, PySem.W.mg_of X G a20, k20, F20, b20⟩
    d_lw_refused := ⟨_, _, PySem.W.mg_of X G a21, k21, F21, b21⟩
    d_House_doors := ⟨_, _, ⟨a22, i22, k22⟩, F22, b22⟩
    d_House_people := ⟨_, _, ⟨a23, i23, k23⟩, F23, b23⟩
    c0 := cT0
    k_House := PySem.W.mg_of X G aC0
    k_BadHouse := PySem.W.mg_of X G aC2
    k_BadStep := PySem.W.mg_of X G aC3
    k_Barred := PySem.W.mg_of X G aC4
    k_Left := PySem.W.mg_of X G aC5
    k_BadText := PySem.W.mg_of X G aC6
    k_BookError := PySem.W.mg_of X G aC7
    bi := ⟨⟨rdB, gaB⟩, fiB⟩
    exa := {
    cl := fun i h1 h2 => by
      rcases i with _ | _ | _ | _ | _ | _ | _ | i
      · omega
      · omega
      · exact ⟨⟨gaX2, ggX2, ex2, hdX2⟩, (congrArg Option.isSome icX2).trans rfl, caX2, hnX, htX, hmX2, na2⟩
      · exact ⟨⟨gaX3, ggX3, ex3, hdX3⟩, (congrArg Option.isSome icX3).trans rfl, caX3, hnX, htX, hmX3, na3⟩
      · exact ⟨⟨gaX4, ggX4, ex4, hdX4⟩, (congrArg Option.isSome icX4).trans rfl, caX4, hnX, htX, hmX4, na4⟩
      · exact ⟨⟨gaX5, ggX5, ex5, hdX5⟩, (congrArg Option.isSome icX5).trans rfl, caX5, hnX, htX, hmX5, na5⟩
      · exact ⟨⟨gaX6, ggX6, ex6, hdX6⟩, (congrArg Option.isSome icX6).trans rfl, caX6, hnX, htX, hmX6, na6⟩
      · omega
    one := fun i j h1 h2 h3 h4 => by
      rcases i with _ | _ | _ | _ | _ | _ | _ | i
      · omega
      · omega
      · rcases j with _ | _ | _ | _ | _ | _ | _ | _ | j
        · omega
        · omega
        · exact on2_2
        · exact on2_3
        · exact on2_4
        · exact on2_5
        · exact on2_6
        · exact on2_7
        · omega
      · rcases j with _ | _ | _ | _ | _ | _ | _ | _ | j
        · omega
        · omega
        · exact on3_2
        · exact on3_3
        · exact on3_4
        · exact on3_5
        · exact on3_6
        · exact on3_7
        · omega
      · rcases j with _ | _ | _ | _ | _ | _ | _ | _ | j
        · omega
        · omega
        · exact on4_2
        · exact on4_3
        · exact on4_4
        · exact on4_5
        · exact on4_6
        · exact on4_7
        · omega
      · rcases j with _ | _ | _ | _ | _ | _ | _ | _ | j
        · omega
        · omega
        · exact on5_2
        · exact on5_3
        · exact on5_4
        · exact on5_5
        · exact on5_6
        · exact on5_7
        · omega
      · rcases j with _ | _ | _ | _ | _ | _ | _ | _ | j
        · omega
        · omega
        · exact on6_2
        · exact on6_3
        · exact on6_4
        · exact on6_5
        · exact on6_6
        · exact on6_7
        · omega
      · omega
    ve := fun i h1 h2 => by
      rcases i with _ | _ | _ | _ | _ | _ | _ | i
      · omega
      · omega
      · exact veX2
      · exact veX3
      · exact veX4
      · exact veX5
      · exact veX6
      · omega
    exm := fun i j h1 h2 h3 h4 => by
      rcases i with _ | _ | _ | _ | _ | _ | _ | i
      · omega
      · omega
      · rcases j with _ | _ | _ | _ | _ | _ | _ | _ | j
        · omega
        · omega
        · exact em2_2
        · exact em2_3
        · exact em2_4
        · exact em2_5
        · exact em2_6
        · exact em2_7
        · omega
      · rcases j with _ | _ | _ | _ | _ | _ | _ | _ | j
        · omega
        · omega
        · exact em3_2
        · exact em3_3
        · exact em3_4
        · exact em3_5
        · exact em3_6
        · exact em3_7
        · omega
      · rcases j with _ | _ | _ | _ | _ | _ | _ | _ | j
        · omega
        · omega
        · exact em4_2
        · exact em4_3
        · exact em4_4
        · exact em4_5
        · exact em4_6
        · exact em4_7
        · omega
      · rcases j with _ | _ | _ | _ | _ | _ | _ | _ | j
        · omega
        · omega
        · exact em5_2
        · exact em5_3
        · exact em5_4
        · exact em5_5
        · exact em5_6
        · exact em5_7
        · omega
      · rcases j with _ | _ | _ | _ | _ | _ | _ | _ | j
        · omega
        · omega
        · exact em6_2
        · exact em6_3
        · exact em6_4
        · exact em6_5
        · exact em6_6
        · exact em6_7
        · omega
      · omega
    }
    g_BEGIN := ⟨_, PySem.W.mg_of X G g_BEGIN⟩
    g_FREE := ⟨_, PySem.W.mg_of X G g_FREE⟩
    g_LED := ⟨_, PySem.W.mg_of X G g_LED⟩
    g_LETTERS := ⟨_, PySem.W.mg_of X G g_LETTERS⟩
    g_LONGEST_NAME := ⟨_, PySem.W.mg_of X G g_LONGEST_NAME⟩
    g_MOST := ⟨_, PySem.W.mg_of X G g_MOST⟩
    g_MOST_DOORS := ⟨_, PySem.W.mg_of X G g_MOST_DOORS⟩
    g_MOST_HOURS := ⟨_, PySem.W.mg_of X G g_MOST_HOURS⟩
    g_MOST_PEOPLE := ⟨_, PySem.W.mg_of X G g_MOST_PEOPLE⟩
    g_MOST_WIDE := ⟨_, PySem.W.mg_of X G g_MOST_WIDE⟩
    g_MOST_ZONES := ⟨_, PySem.W.mg_of X G g_MOST_ZONES⟩
    g_NAME := ⟨_, PySem.W.mg_of X G g_NAME⟩
    n_ValueError := PySem.W.mg_none_of X G n_ValueError
    n_int := PySem.W.mg_none_of X G n_int
    n_isinstance := PySem.W.mg_none_of X G n_isinstance
    n_len := PySem.W.mg_none_of X G n_len
    n_list := PySem.W.mg_none_of X G n_list
    n_min := PySem.W.mg_none_of X G n_min
    n_range := PySem.W.mg_none_of X G n_range
    n_set := PySem.W.mg_none_of X G n_set
    n_sorted := PySem.W.mg_none_of X G n_sorted
    n_sum := PySem.W.mg_none_of X G n_sum
    n_tuple := PySem.W.mg_none_of X G n_tuple }
  exact ⟨PySem.W.fnOf "law" "law" (defArgs st_law) (defBody st_law) (defScope st_law) .none kV24 dc24 pm24 an24 cd24 ct24, fun s v => .of_eq rfl, fun base _ _ => law_end (ok_all T F24) law_true⟩
theorem walk {l : PySem.W.OpenLaw} {q : Program} {loose : List Str} {XP : (Str → Option Value) → Heap → Prop} {YP : World → Heap → Prop} {d : DefRec} {K : Params → PySem.W.Frag} (hn : l.most = some 63) (hdf : d.params.defaults = [])
    (hY : ∀ (w : World) (h : Heap), YP w h → (K w.params).In h)
    (F : ∀ (w : World) (mg : Str → Option Value) (fa : Addr) (h : Heap), (K w.params).In h → h.Ns mainGlobals mg → mg d.name = some (.ref fa) →
      ∃ fd : FuncData, (∀ (s : Shared) (u : Value), BindsTo s fd ⟨[u], []⟩ [("_law_script", u)]) ∧ ∀ base : Heap, (K w.params).In base → base.Ns mainGlobals mg → FnOk l.prog w (K w.params) mg base CX0 9 fa fd ["_law_script"] (spLaw (K w.params))) :
    PySem.W.WalkO q loose XP YP l.row.toRowW d [] (fun f vs => PySem.call f vs) :=
  L2.walk_of (n := 63) (k := 9) (x := "_law_script") (CX := fun _ => CX0) (sp := fun w => spLaw (K w.params)) hn (by decide) hdf ⟨rfl, by decide, by decide⟩ hY F (fun _ _ a ns hl _ hS => ⟨a, ns, rfl, hS, hl, fun _ => rfl⟩) fun _ _ _ _ _ z => z
end Eb
open PySem PySem.W PyProof.Rows
set_option maxRecDepth 100000 in
set_option maxHeartbeats 0 in
theorem PySem.Challenge.cw_escortbook_k11_houses_refused_holds : PySem.Challenge.rw_escortbook_k11_houses_refused.Holds := by
  w_on; o_law; k_head; (case hw => w_witness2)
  k_fill
  refine Eb.walk (l := PySem.Challenge.rw_escortbook_k11_houses_refused) rfl rfl (fun w h Y => PySem.W.kIn_of Y) ?F
  case F =>
    intro w mg fa h KX G hmg
    refine' Eb.all_mk KX G hmg ?aC0 ?aC2 ?aC3 ?aC4 ?aC5 ?aC6 ?aC7 ?a0 ?l0 ?c0 ?k0 ?a1 ?l1 ?c1 ?k1 ?a2 ?l2 ?c2 ?k2 ?a3 ?l3 ?c3 ?k3 ?a4 ?l4 ?c4 ?k4 ?a5 ?l5 ?c5 ?k5 ?a6 ?i6 ?l6 ?c6 ?k6 ?a7 ?l7 ?c7 ?k7 ?a8 ?l8 ?c8 ?k8 ?a9 ?l9 ?c9 ?k9 ?a10 ?l10 ?c10 ?k10 ?a11 ?l11 ?c11 ?k11 ?a12 ?l12 ?c12 ?k12 ?a13 ?i13 ?l13 ?c13 ?k13 ?a14 ?l14 ?c14 ?k14 ?a15 ?i15 ?l15 ?c15 ?k15 ?a16 ?i16 ?l16 ?c16 ?k16 ?a17 ?l17 ?c17 ?k17 ?a18 ?l18 ?c18 ?k18 ?a19 ?l19 ?c19 ?k19 ?a20 ?l20 ?c20 ?k20 ?a21 ?l21 ?c21 ?k21 ?a22 ?i22 ?l22 ?c22 ?k22 ?a23 ?i23 ?l23 ?c23 ?k23 ?a24 ?l24 ?c24 ?k24 ?pg0 ?hd0 ?po0 ?sa0 ?mk0 ?kc0 ?nf0_0 ?nf0_1 ?nf0_2 ?nf0_3 ?ex2 ?ty2 ?kc2 ?nf2_0 ?nf2_1 ?sa2 ?xL2 ?ex3 ?ty3 ?kc3 ?ex4 ?ty4 ?kc4 ?nf4_0 ?nf4_1 ?nf4_2 ?ex5 ?ty5 ?kc5 ?nf5_0 ?ex6 ?ty6 ?kc6 ?nf6_0 ?ex7 ?ty7 ?kc7 ?rdB ?gaB ?fiB ?hnX ?htX ?gaX2 ?ggX2 ?hdX2 ?icX2 ?caX2 ?hmX2 ?veX2 ?on2_2 ?em2_2 ?on2_3 ?em2_3 ?on2_4 ?em2_4 ?on2_5 ?em2_5 ?on2_6 ?em2_6 ?on2_7 ?em2_7 ?gaX3 ?ggX3 ?hdX3 ?icX3 ?caX3 ?hmX3 ?veX3 ?on3_2 ?em3_2 ?on3_3 ?em3_3 ?on3_4 ?em3_4 ?on3_5 ?em3_5 ?on3_6 ?em3_6 ?on3_7 ?em3_7 ?gaX4 ?ggX4 ?hdX4 ?icX4 ?caX4 ?hmX4 ?veX4 ?on4_2 ?em4_2 ?on4_3 ?em4_3 ?on4_4 ?em4_4 ?on4_5 ?em4_5 ?on4_6 ?em4_6 ?on4_7 ?em4_7 ?gaX5 ?ggX5 ?hdX5 ?icX5 ?caX5 ?hmX5 ?veX5 ?on5_2 ?em5_2 ?on5_3 ?em5_3 ?on5_4 ?em5_4 ?on5_5 ?em5_5 ?on5_6 ?em5_6 ?on5_7 ?em5_7 ?gaX6 ?ggX6 ?hdX6 ?icX6 ?caX6 ?hmX6 ?veX6 ?on6_2 ?em6_2 ?on6_3 ?em6_3 ?on6_4 ?em6_4 ?on6_5 ?em6_5 ?on6_6 ?em6_6 ?on6_7 ?em6_7 ?g_BEGIN ?g_FREE ?g_LED ?g_LETTERS ?g_LONGEST_NAME ?g_MOST ?g_MOST_DOORS ?g_MOST_HOURS ?g_MOST_PEOPLE ?g_MOST_WIDE ?g_MOST_ZONES ?g_NAME ?n_ValueError ?n_int ?n_isinstance ?n_len ?n_list ?n_min ?n_range ?n_set ?n_sorted ?n_sum ?n_tuple
    (case aC0 => k_is)
    (case aC2 => k_is)
    (case aC3 => k_is)
    (case aC4 => k_is)
    (case aC5 => k_is)
    (case aC6 => k_is)
    (case aC7 => k_is)
    (case a0 => k_is)
    (case l0 => k_is)
    (case c0 => k_is)
    (case k0 => k_is)
    (case a1 => k_is)
    (case l1 => k_is)
    (case c1 => k_is)
    (case k1 => k_is)
    (case a2 => k_is)
    (case l2 => k_is)
    (case c2 => k_is)
    (case k2 => k_is)
    (case a3 => k_is)
    (case l3 => k_is)
    (case c3 => k_is)
    (case k3 => k_is)
    (case a4 => k_is)
    (case l4 => k_is)
    (case c4 => k_is)
    (case k4 => k_is)
    (case a5 => k_is)
    (case l5 => k_is)
    (case c5 => k_is)
    (case k5 => k_is)
    (case a6 => k_is)
    (case i6 => k_is)
    (case l6 => k_is)
    (case c6 => k_is)
    (case k6 => k_is)
    (case a7 => k_is)
    (case l7 => k_is)
    (case c7 => k_is)
    (case k7 => k_is)
    (case a8 => k_is)
    (case l8 => k_is)
    (case c8 => k_is)
    (case k8 => k_is)
    (case a9 => k_is)
    (case l9 => k_is)
    (case c9 => k_is)
    (case k9 => k_is)
    (case a10 => k_is)
    (case l10 => k_is)
    (case c10 => k_is)
    (case k10 => k_is)
    (case a11 => k_is)
    (case l11 => k_is)
    (case c11 => k_is)
    (case k11 => k_is)
    (case a12 => k_is)
    (case l12 => k_is)
    (case c12 => k_is)
    (case k12 => k_is)
    (case a13 => k_is)
    (case i13 => k_is)
    (case l13 => k_is)
    (case c13 => k_is)
    (case k13 => k_is)
    (case a14 => k_is)
    (case l14 => k_is)
    (case c14 => k_is)
    (case k14 => k_is)
    (case a15 => k_is)
    (case i15 => k_is)
    (case l15 => k_is)
    (case c15 => k_is)
    (case k15 => k_is)
    (case a16 => k_is)
    (case i16 => k_is)
    (case l16 => k_is)
    (case c16 => k_is)
    (case k16 => k_is)
    (case a17 => k_is)
    (case l17 => k_is)
    (case c17 => k_is)
    (case k17 => k_is)
    (case a18 => k_is)
    (case l18 => k_is)
    (case c18 => k_is)
    (case k18 => k_is)
    (case a19 => k_is)
    (case l19 => k_is)
    (case c19 => k_is)
    (case k19 => k_is)
    (case a20 => k_is)
    (case l20 => k_is)
    (case c20 => k_is)
    (case k20 => k_is)
    (case a21 => k_is)
    (case l21 => k_is)
    (case c21 => k_is)
    (case k21 => k_is)
    (case a22 => k_is)
    (case i22 => k_is)
    (case l22 => k_is)
    (case c22 => k_is)
    (case k22 => k_is)
    (case a23 => k_is)
    (case i23 => k_is)
    (case l23 => k_is)
    (case c23 => k_is)
    (case k23 => k_is)
    (case a24 => k_is)
    (case l24 => k_is)
    (case c24 => k_is)
    (case k24 => k_is)
    (case pg0 => k_is)
    (case hd0 => k_is)
    (case po0 => k_is)
    (case sa0 => k_is)
    (case mk0 => k_is)
    (case kc0 => k_is)
    (case nf0_0 => k_is)
    (case nf0_1 => k_is)
    (case nf0_2 => k_is)
    (case nf0_3 => k_is)
    (case ex2 => k_is)
    (case ty2 => k_is)
    (case kc2 => k_is)
    (case nf2_0 => k_is)
    (case nf2_1 => k_is)
    (case sa2 => k_is)
    (case xL2 => k_is)
    (case ex3 => k_is)
    (case ty3 => k_is)
    (case kc3 => k_is)
    (case ex4 => k_is)
    (case ty4 => k_is)
    (case kc4 => k_is)
    (case nf4_0 => k_is)
    (case nf4_1 => k_is)
    (case nf4_2 => k_is)
    (case ex5 => k_is)
    (case ty5 => k_is)
    (case kc5 => k_is)
    (case nf5_0 => k_is)
    (case ex6 => k_is)
    (case ty6 => k_is)
    (case kc6 => k_is)
    (case nf6_0 => k_is)
    (case ex7 => k_is)
    (case ty7 => k_is)
    (case kc7 => k_is)
    (case rdB => k_is)
    (case gaB => k_is)
    (case fiB => k_is)
    (case hnX => k_is)
    (case htX => k_is)
    (case gaX2 => k_is)
    (case ggX2 => k_is)
    (case hdX2 => k_is)
    (case icX2 => k_is)
    (case caX2 => k_is)
    (case hmX2 => k_is)
    (case veX2 => kit_is)
    (case on2_2 => kit_is)
    (case em2_2 => kts_exm)
    (case on2_3 => kit_is)
    (case em2_3 => kts_exm)
    (case on2_4 => kit_is)
    (case em2_4 => kts_exm)
    (case on2_5 => kit_is)
    (case em2_5 => kts_exm)
    (case on2_6 => kit_is)
    (case em2_6 => kts_exm)
    (case on2_7 => kit_is)
    (case em2_7 => kts_exm)
    (case gaX3 => k_is)
    (case ggX3 => k_is)
    (case hdX3 => k_is)
    (case icX3 => k_is)
    (case caX3 => k_is)
    (case hmX3 => k_is)
    (case veX3 => kit_is)
    (case on3_2 => kit_is)
    (case em3_2 => kts_exm)
    (case on3_3 => kit_is)
    (case em3_3 => kts_exm)
    (case on3_4 => kit_is)
    (case em3_4 => kts_exm)
    (case on3_5 => kit_is)
    (case em3_5 => kts_exm)
    (case on3_6 => kit_is)
    (case em3_6 => kts_exm)
    (case on3_7 => kit_is)
    (case em3_7 => kts_exm)
    (case gaX4 => k_is)
    (case ggX4 => k_is)
    (case hdX4 => k_is)
    (case icX4 => k_is)
    (case caX4 => k_is)
    (case hmX4 => k_is)
    (case veX4 => kit_is)
    (case on4_2 => kit_is)
    (case em4_2 => kts_exm)
    (case on4_3 => kit_is)
    (case em4_3 => kts_exm)
    (case on4_4 => kit_is)
    (case em4_4 => kts_exm)
    (case on4_5 => kit_is)
    (case em4_5 => kts_exm)
    (case on4_6 => kit_is)
    (case em4_6 => kts_exm)
    (case on4_7 => kit_is)
    (case em4_7 => kts_exm)
    (case gaX5 => k_is)
    (case ggX5 => k_is)
    (case hdX5 => k_is)
    (case icX5 => k_is)
    (case caX5 => k_is)
    (case hmX5 => k_is)
    (case veX5 => kit_is)
    (case on5_2 => kit_is)
    (case em5_2 => kts_exm)
    (case on5_3 => kit_is)
    (case em5_3 => kts_exm)
    (case on5_4 => kit_is)
    (case em5_4 => kts_exm)
    (case on5_5 => kit_is)
    (case em5_5 => kts_exm)
    (case on5_6 => kit_is)
    (case em5_6 => kts_exm)
    (case on5_7 => kit_is)
    (case em5_7 => kts_exm)
    (case gaX6 => k_is)
    (case ggX6 => k_is)
    (case hdX6 => k_is)
    (case icX6 => k_is)
    (case caX6 => k_is)
    (case hmX6 => k_is)
    (case veX6 => kit_is)
    (case on6_2 => kit_is)
    (case em6_2 => kts_exm)
    (case on6_3 => kit_is)
    (case em6_3 => kts_exm)
    (case on6_4 => kit_is)
    (case em6_4 => kts_exm)
    (case on6_5 => kit_is)
    (case em6_5 => kts_exm)
    (case on6_6 => kit_is)
    (case em6_6 => kts_exm)
    (case on6_7 => kit_is)
    (case em6_7 => kts_exm)
    (case g_BEGIN => k_is)
    (case g_FREE => k_is)
    (case g_LED => k_is)
    (case g_LETTERS => k_is)
    (case g_LONGEST_NAME => k_is)
    (case g_MOST => k_is)
    (case g_MOST_DOORS => k_is)
    (case g_MOST_HOURS => k_is)
    (case g_MOST_PEOPLE => k_is)
    (case g_MOST_WIDE => k_is)
    (case g_MOST_ZONES => k_is)
    (case g_NAME => k_is)
    (case n_ValueError => k_is)
    (case n_int => k_is)
    (case n_isinstance => k_is)
    (case n_len => k_is)
    (case n_list => k_is)
    (case n_min => k_is)
    (case n_range => k_is)
    (case n_set => k_is)
    (case n_sorted => k_is)
    (case n_sum => k_is)
    (case n_tuple => k_is)

