import PyProof.Rows.All
import Wide.All
import OpenK.AllK
import Wide.FinOn
import HandS.ForMost
import HandS.ForExc
import HandS.Evl
import HandS.Strs
import HandS.TupAny
import HandS.TupMul
import HandS.Style
import HandS.Text
import HandS.SetFor
import HandS.IsInst
import PyProof.TupleOfSeq
import HandS.Set
import HandS.SortOrd
import KE.DataEq
import HandS.ExcInit
import HandS.ExcField
import HandS.ClsMeth
import KE.KExcIs
import KE.KDictDisplayH
import KE.KDictSum
import HandS.Conv
import HandS.TupLe
import HandS.Rev
import PySem.Challenge.RW_escortbook_k12_whole_people_told_in_anot
set_option Elab.async false
set_option linter.all false
set_option maxRecDepth 100000
set_option maxHeartbeats 4000000
/-! Eb: data without a heap, cells that change, and how they stand in the heap. -/
namespace Eb
open PySem L2
open Evl (Ex ex_l ex_t)
/-- a value by what it is; mut k: the k-th cell -/
inductive D where
  | non | bl (b : Bool) | int (i : Int) | str (x : Str)
  | tup (xs : List D) | lst (xs : List D)
  | ins (c : Nat) (ds : List D)
  | set (ns : List Int)
  | cel (k : Nat)
  | scr (ns : List Int)
  | ty (n : String)
  | cls (c : Nat)
  /-- a dict that is changed no more, its keys tuples of ints -/
  | dic (ks : List (List Int)) (ds : List D)
  /-- the exception that a suite holds -/
  | exn (c : Nat) (fs : List D)
/-- what a cell holds -/
inductive Cell where
  | lst (xs : List D)
  | dic (ks : List (List Int)) (ds : List D)
  | ins (c : Nat) (ds : List D)
  | dead
def Cell.live : Cell → Bool
  | .dead => false
  | _ => true
structure Exn where
  c : Nat
  fs : List D
/-- the program, the world, what the top has left; the own classes by number, their attributes in order -/
structure Gam where
  P : Program
  w : World
  K : PySem.W.Frag
  cls : Nat → Addr
  flds : Nat → List Str
  /-- in an except suite: the exception's place, class, dict -/
  xc : Option (Addr × Nat × Option Addr)
/-- the cells' addresses; addresses that are hidden for a while -/
structure Th where
  ids : List Addr
  hid : List Addr
abbrev Mu := List Cell
abbrev Rho := List (Option D)

/-- keys and values as the heap has them -/
def tkv (ks : List (List Int)) (xs : List V) : List (List Key × V) := (ks.map fun k => k.map Sum.inl).zip xs
/-- what is no tuple -/
def Solid (o : HO) : Prop := ∀ xs, o ≠ .tup xs
mutual
def Rp (g : Gam) (th : Th) (G : Hp) : D → V → Prop
  | .non, v => v = .non
  | .bl b, v => v = .bl b
  | .int i, v => v = .int i
  | .str x, v => v = .str x
  | .tup ds, v => ∃ a xs, v = .ref a ∧ (G a = some (.tup xs) ∨ (ds.length = 1 ∧ xs = [.str "wait"] ∧ SqT g.K G a xs)) ∧ RpL g th G ds xs
  | .lst ds, v => ∃ a xs, v = .ref a ∧ G a = some (.lst xs) ∧ RpL g th G ds xs
  | .ins c ds, v => ∃ a dx ys xs, v = .ref a ∧ G a = some (.ins (g.cls c) dx ys) ∧ ys = ((g.flds c).take ds.length).zip xs ∧ ds.length ≤ (g.flds c).length ∧ RpL g th G ds xs
  | .set ns, v => ∃ a S, v = .ref a ∧ G a = some (SetO g.w a S ns.length) ∧ ns.Pairwise (· < ·) ∧ ∀ k, S k = true ↔ k ∈ ns
  | .cel k, v => ∃ a, v = .ref a ∧ th.ids[k]? = some a
  | .scr ns, v => ∃ a, v = .ref a ∧ SqL g.K G a (ns.map V.int)
  | .ty n, v => v = .ty n
  | .cls c, v => v = .ref (g.cls c)
  | .dic ks ds, v => ∃ a o xs, v = .ref a ∧ G a = some (.frz o (.dT (tkv ks xs))) ∧ ks.length = ds.length ∧ ks.length ≤ 100000 ∧ ks.Nodup ∧ RpL g th G ds xs
  | .exn c fs, v => ∃ a dd, g.xc = some (a, c, dd) ∧ v = .ref a ∧ ((fs = [] ∧ dd = none) ∨ ∃ da ys xs, dd = some da ∧ G da = some (.xd ys) ∧ ys = (g.flds c).zip xs ∧ RpL g th G fs xs)
def RpL (g : Gam) (th : Th) (G : Hp) : List D → List V → Prop
  | [], vs => vs = []
  | d :: ds, vs => ∃ v r, vs = v :: r ∧ Rp g th G d v ∧ RpL g th G ds r
end
/-- the cells' places -/
def own : List Addr → Mu → List Addr
  | a :: th, c :: mu => if c.live = true then a :: own th mu else own th mu
  | _, _ => []
/-- the heap without the cells -/
def Gz (th : Th) (mu : Mu) (H : Hp) : Hp := fun a => if a ∈ own th.ids mu ∨ a ∈ th.hid then none else H a
def CellOk (g : Gam) (th : Th) (G H : Hp) (a : Addr) : Cell → Prop
  | .lst ds => ∃ xs, H a = some (.lst xs) ∧ RpL g th G ds xs
  | .dic ks ds => ∃ xs, H a = some (.dT (tkv ks xs)) ∧ ks.length = ds.length ∧ ks.length ≤ 100000 ∧ ks.Nodup ∧ RpL g th G ds xs
  | .ins c ds => ∃ dx ys xs, H a = some (.ins (g.cls c) dx ys) ∧ ys = ((g.flds c).take ds.length).zip xs ∧ ds.length ≤ (g.flds c).length ∧ RpL g th G ds xs
  | .dead => True
structure Ok (g : Gam) (th : Th) (mu : Mu) (H : Hp) : Prop where
  len : th.ids.length = mu.length
  nod : (own th.ids mu).Nodup
  cel : ∀ (i : Nat) a c, th.ids[i]? = some a → mu[i]? = some c → CellOk g th (Gz th mu H) H a c
  hid : ∀ a ∈ th.hid, a ∉ own th.ids mu ∧ ∃ o, H a = some o ∧ Solid o
structure Pfx (th th' : Th) : Prop where
  ids : ∃ r, th'.ids = th.ids ++ r
  hid : th'.hid = th.hid

section
variable {g : Gam} {th th' th2 : Th} {mu mu' : Mu} {G G' H H' H2 : Hp}
theorem Pfx.refl : Pfx th th := ⟨⟨[], by simp⟩, rfl⟩
theorem Pfx.trans (a : Pfx th th') (b : Pfx th' th2) : Pfx th th2 := by
  obtain ⟨⟨r, e1⟩, h1⟩ := a
  obtain ⟨⟨q, e2⟩, h2⟩ := b
  exact ⟨⟨r ++ q, by rw [e2, e1, List.append_assoc]⟩, h2.trans h1⟩
theorem Pfx.get (a : Pfx th th') {i : Nat} {x : Addr} (h : th.ids[i]? = some x) : th'.ids[i]? = some x := by
  obtain ⟨⟨r, e1⟩, _⟩ := a
  have hi : i < th.ids.length := (List.getElem?_eq_some_iff.mp h).1
  rw [e1, List.getElem?_append_left hi]
  exact h
mutual
theorem Rp.mono (p : Pfx th th') (e : Ex G G') : ∀ (d : D) (v : V), Rp g th G d v → Rp g th' G' d v
  | .non, v, h => h
  | .bl _, v, h => h
  | .int _, v, h => h
  | .str _, v, h => h
  | .tup ds, v, h => by
    obtain ⟨a, xs, e1, e2, e3⟩ := h
    exact ⟨a, xs, e1, e2.imp (e _ _) fun q => ⟨q.1, q.2.1, ex_t e q.2.2⟩, RpL.mono p e ds xs e3⟩
  | .lst ds, v, h => by
    obtain ⟨a, xs, e1, e2, e3⟩ := h
    exact ⟨a, xs, e1, e _ _ e2, RpL.mono p e ds xs e3⟩
  | .ins c ds, v, h => by
    obtain ⟨a, dx, ys, xs, e1, e2, e3, e4, e5⟩ := h
    exact ⟨a, dx, ys, xs, e1, e _ _ e2, e3, e4, RpL.mono p e ds xs e5⟩
  | .set ns, v, h => by
    obtain ⟨a, S, e1, e2, e3⟩ := h
    exact ⟨a, S, e1, e _ _ e2, e3⟩
  | .cel k, v, h => by
    obtain ⟨a, e1, e2⟩ := h
    exact ⟨a, e1, p.get e2⟩
  | .scr ns, v, h => by
    obtain ⟨a, e1, e2⟩ := h
    exact ⟨a, e1, ex_l e e2⟩
  | .ty _, v, h => h
  | .cls _, v, h => h
  | .dic ks ds, v, h => by
    obtain ⟨a, o, xs, e1, e2, e3, e4, e5, e6⟩ := h
    exact ⟨a, o, xs, e1, e _ _ e2, e3, e4, e5, RpL.mono p e ds xs e6⟩
  | .exn c fs, v, h => by
    obtain ⟨a, dd, e1, e2, h⟩ := h
    refine ⟨a, dd, e1, e2, ?_⟩
    rcases h with h | ⟨da, ys, xs, q1, q2, q3, q4⟩
    · exact .inl h
    · exact .inr ⟨da, ys, xs, q1, e _ _ q2, q3, RpL.mono p e fs xs q4⟩
theorem RpL.mono (p : Pfx th th') (e : Ex G G') : ∀ (ds : List D) (vs : List V), RpL g th G ds vs → RpL g th' G' ds vs
  | [], vs, h => h
  | d :: ds, vs, h => by
    obtain ⟨v, r, e1, e2, e3⟩ := h
    exact ⟨v, r, e1, Rp.mono p e d v e2, RpL.mono p e ds r e3⟩
end
theorem CellOk.mono (p : Pfx th th') (e : Ex G G') {a : Addr} (h : H' a = H a) : ∀ {c : Cell}, CellOk g th G H a c → CellOk g th' G' H' a c
  | .lst ds, x => by
    obtain ⟨xs, e1, e2⟩ := x
    exact ⟨xs, h.trans e1, RpL.mono p e _ _ e2⟩
  | .dic ks ds, x => by
    obtain ⟨xs, e1, e2, e3, e4, e5⟩ := x
    exact ⟨xs, h.trans e1, e2, e3, e4, RpL.mono p e _ _ e5⟩
  | .ins c ds, x => by
    obtain ⟨dx, ys, xs, e1, e2, e3, e4⟩ := x
    exact ⟨dx, ys, xs, h.trans e1, e2, e3, RpL.mono p e _ _ e4⟩
  | .dead, _ => trivial
theorem RpL.length : ∀ {ds : List D} {vs : List V}, RpL g th G ds vs → vs.length = ds.length
  | [], vs, h => by
    rw [show vs = [] from h]
    rfl
  | d :: ds, vs, h => by
    obtain ⟨v, r, e1, e2, e3⟩ := h
    rw [e1, List.length_cons, List.length_cons, RpL.length e3]
theorem RpL.get : ∀ {ds : List D} {vs : List V} {i : Nat} {d : D}, RpL g th G ds vs → ds[i]? = some d → ∃ v, vs[i]? = some v ∧ Rp g th G d v
  | [], vs, i, d, _, e => by simp at e
  | d :: ds, vs, 0, d', h, e => by
    obtain ⟨v, r, e1, e2, e3⟩ := h
    have : d = d' := by simpa using e
    subst this
    exact ⟨v, by rw [e1]; rfl, e2⟩
  | d :: ds, vs, i + 1, d', h, e => by
    obtain ⟨v, r, e1, e2, e3⟩ := h
    obtain ⟨x, q1, q2⟩ := RpL.get (i := i) (d := d') e3 (by simpa using e)
    exact ⟨x, by rw [e1]; simpa using q1, q2⟩
theorem RpL.append : ∀ {ds es : List D} {vs ws : List V}, RpL g th G ds vs → RpL g th G es ws → RpL g th G (ds ++ es) (vs ++ ws)
  | [], es, vs, ws, h, q => by
    rw [show vs = [] from h]
    exact q
  | d :: ds, es, vs, ws, h, q => by
    obtain ⟨v, r, e1, e2, e3⟩ := h
    exact ⟨v, r ++ ws, by rw [e1]; rfl, e2, RpL.append e3 q⟩
theorem RpL.take : ∀ {ds : List D} {vs : List V} (n : Nat), RpL g th G ds vs → RpL g th G (ds.take n) (vs.take n)
  | ds, vs, 0, _ => by
    rw [List.take_zero, List.take_zero]
    exact rfl
  | [], vs, n + 1, h => by
    rw [show vs = [] from h]
    exact rfl
  | d :: ds, vs, n + 1, h => by
    obtain ⟨v, r, e1, e2, e3⟩ := h
    exact ⟨v, r.take n, by rw [e1]; rfl, e2, RpL.take n e3⟩
theorem RpL.drop : ∀ {ds : List D} {vs : List V} (n : Nat), RpL g th G ds vs → RpL g th G (ds.drop n) (vs.drop n)
  | ds, vs, 0, h => by
    rw [List.drop_zero, List.drop_zero]
    exact h
  | [], vs, n + 1, h => by
    rw [show vs = [] from h]
    exact rfl
  | d :: ds, vs, n + 1, h => by
    obtain ⟨v, r, e1, e2, e3⟩ := h
    rw [e1]
    exact RpL.drop n e3
theorem RpL.set : ∀ {ds : List D} {vs : List V} (n : Nat) {d : D} {v : V}, RpL g th G ds vs → Rp g th G d v → RpL g th G (ds.set n d) (vs.set n v)
  | [], vs, n, d, v, h, q => by
    rw [show vs = [] from h]
    exact rfl
  | d' :: ds, vs, 0, d, v, h, q => by
    obtain ⟨x, r, e1, e2, e3⟩ := h
    exact ⟨v, r, by rw [e1]; rfl, q, e3⟩
  | d' :: ds, vs, n + 1, d, v, h, q => by
    obtain ⟨x, r, e1, e2, e3⟩ := h
    exact ⟨x, r.set n v, by rw [e1]; rfl, e2, RpL.set n e3 q⟩
theorem RpL.replicate {d : D} {v : V} (h : Rp g th G d v) : ∀ n : Nat, RpL g th G (List.replicate n d) (List.replicate n v)
  | 0 => rfl
  | n + 1 => ⟨v, List.replicate n v, rfl, h, RpL.replicate h n⟩

/-! ### the cells' places -/
theorem own_mem : ∀ {th : List Addr} {mu : Mu} {a : Addr}, a ∈ own th mu ↔ ∃ (i : Nat) (c : Cell), th[i]? = some a ∧ mu[i]? = some c ∧ c.live = true
  | [], mu, a => by simp [own]
  | b :: th, [], a => by simp [own]
  | b :: th, c :: mu, a => by
    unfold own
    constructor
    · intro h
      by_cases hc : c.live = true
      · rw [if_pos hc] at h
        rcases List.mem_cons.mp h with h | h
        · exact ⟨0, c, by simp [h], by simp, hc⟩
        · obtain ⟨i, c', e1, e2, e3⟩ := own_mem.mp h
          exact ⟨i + 1, c', by simpa using e1, by simpa using e2, e3⟩
      · rw [if_neg hc] at h
        obtain ⟨i, c', e1, e2, e3⟩ := own_mem.mp h
        exact ⟨i + 1, c', by simpa using e1, by simpa using e2, e3⟩
    · rintro ⟨i, c', e1, e2, e3⟩
      cases i with
      | zero =>
        have q1 : b = a := by simpa using e1
        have q2 : c = c' := by simpa using e2
        subst q1 q2
        rw [if_pos e3]
        exact List.mem_cons_self
      | succ i =>
        have m : a ∈ own th mu := own_mem.mpr ⟨i, c', by simpa using e1, by simpa using e2, e3⟩
        by_cases hc : c.live = true
        · rw [if_pos hc]; exact List.mem_cons_of_mem _ m
        · rw [if_neg hc]; exact m
theorem own_inj : ∀ {th : List Addr} {mu : Mu} {i j : Nat} {a : Addr} {c c' : Cell}, (own th mu).Nodup → th[i]? = some a → th[j]? = some a → mu[i]? = some c → mu[j]? = some c' → c.live = true → c'.live = true → i = j
  | [], mu, i, j, a, c, c', _, h, _, _, _, _, _ => by simp at h
  | b :: th, [], i, j, a, c, c', _, _, _, h, _, _, _ => by simp at h
  | b :: th, d :: mu, i, j, a, c, c', nd, h1, h2, h3, h4, l1, l2 => by
    unfold own at nd
    cases i with
    | zero =>
      cases j with
      | zero => rfl
      | succ j =>
        have q1 : b = a := by simpa using h1
        have q2 : d = c := by simpa using h3
        subst q1 q2
        rw [if_pos l1] at nd
        exact absurd (own_mem.mpr ⟨j, c', by simpa using h2, by simpa using h4, l2⟩) (List.nodup_cons.mp nd).1
    | succ i =>
      cases j with
      | zero =>
        have q1 : b = a := by simpa using h2
        have q2 : d = c' := by simpa using h4
        subst q1 q2
        rw [if_pos l2] at nd
        exact absurd (own_mem.mpr ⟨i, c, by simpa using h1, by simpa using h3, l1⟩) (List.nodup_cons.mp nd).1
      | succ j =>
        have nd' : (own th mu).Nodup := by
          by_cases hd : d.live = true
          · rw [if_pos hd] at nd; exact (List.nodup_cons.mp nd).2
          · rw [if_neg hd] at nd; exact nd
        have := own_inj (th := th) (mu := mu) (i := i) (j := j) nd' (by simpa using h1) (by simpa using h2) (by simpa using h3) (by simpa using h4) l1 l2
        omega
/-- which places are cells' depends on liveness alone -/
theorem own_set_live : ∀ {th : List Addr} {mu : Mu} {i : Nat} {c c' : Cell}, mu[i]? = some c → c.live = c'.live → own th (mu.set i c') = own th mu
  | [], mu, i, c, c', _, _ => by simp [own]
  | b :: th, [], i, c, c', h, _ => by simp at h
  | b :: th, d :: mu, 0, c, c', h, l => by
    have q : d = c := by simpa using h
    subst q
    show own (b :: th) (c' :: mu) = own (b :: th) (d :: mu)
    unfold own
    rw [l]
  | b :: th, d :: mu, i + 1, c, c', h, l => by
    show own (b :: th) (d :: mu.set i c') = own (b :: th) (d :: mu)
    unfold own
    rw [own_set_live (i := i) (by simpa using h) l]
theorem own_app : ∀ {th : List Addr} {mu : Mu} {p : Addr} {c : Cell}, th.length = mu.length → c.live = true → own (th ++ [p]) (mu ++ [c]) = own th mu ++ [p]
  | [], [], p, c, _, l => by simp [own, l]
  | [], _ :: _, p, c, h, _ => by simp at h
  | _ :: _, [], p, c, h, _ => by simp at h
  | a :: th, d :: mu, p, c, h, l => by
    show own (a :: (th ++ [p])) (d :: (mu ++ [c])) = own (a :: th) (d :: mu) ++ [p]
    unfold own
    rw [own_app (by simpa using h) l]
    by_cases hd : d.live = true
    · rw [if_pos hd, if_pos hd]; rfl
    · rw [if_neg hd, if_neg hd]
theorem CellOk.there {a : Addr} {c : Cell} (h : CellOk g th G H a c) (l : c.live = true) : ∃ o, H a = some o := by
  cases c with
  | lst ds => obtain ⟨_, e, _⟩ := h; exact ⟨_, e⟩
  | dic ks ds => obtain ⟨_, e, _⟩ := h; exact ⟨_, e⟩
  | ins c ds => obtain ⟨_, _, _, e, _⟩ := h; exact ⟨_, e⟩
  | dead => cases l
theorem CellOk.solid {a : Addr} {c : Cell} (h : CellOk g th G H a c) (l : c.live = true) : ∃ o, H a = some o ∧ Solid o := by
  cases c with
  | lst ds => obtain ⟨_, e, _⟩ := h; exact ⟨_, e, fun _ z => nomatch z⟩
  | dic ks ds => obtain ⟨_, e, _⟩ := h; exact ⟨_, e, fun _ z => nomatch z⟩
  | ins c ds => obtain ⟨_, _, _, e, _⟩ := h; exact ⟨_, e, fun _ z => nomatch z⟩
  | dead => cases l
theorem Ok.solid (o : Ok g th mu H) {a : Addr} (h : a ∈ own th.ids mu) : ∃ u, H a = some u ∧ Solid u := by
  obtain ⟨i, c, e1, e2, e3⟩ := own_mem.mp h
  exact (o.cel i a c e1 e2).solid e3
theorem Ok.there (o : Ok g th mu H) {a : Addr} (h : a ∈ own th.ids mu) : ∃ u, H a = some u := by
  obtain ⟨i, c, e1, e2, e3⟩ := own_mem.mp h
  exact (o.cel i a c e1 e2).there e3
theorem Ok.new (o : Ok g th mu H) {p : Addr} (h : H p = none) : ¬ (p ∈ own th.ids mu ∨ p ∈ th.hid) := fun m => by
  rcases m with m | m
  · obtain ⟨u, e⟩ := o.there m
    rw [h] at e; cases e
  · obtain ⟨_, u, e, _⟩ := o.hid p m
    rw [h] at e; cases e
theorem Gz_none {p : Addr} (h : H p = none) : Gz th mu H p = none := by
  unfold Gz
  split
  · rfl
  · exact h
theorem Gz_ex (e : Ex H H') : Ex (Gz th mu H) (Gz th mu H') := fun a u q => by
  unfold Gz at q ⊢
  by_cases m : a ∈ own th.ids mu ∨ a ∈ th.hid
  · rw [if_pos m] at q; cases q
  · rw [if_neg m] at q ⊢; exact e a u q
theorem Gz_sub : Ex (Gz th mu H) H := fun a u q => by
  unfold Gz at q
  by_cases m : a ∈ own th.ids mu ∨ a ∈ th.hid
  · rw [if_pos m] at q; cases q
  · rw [if_neg m] at q; exact q
/-- the heap grows -/
theorem Ok.ex (o : Ok g th mu H) (e : Ex H H') : Ok g th mu H' := ⟨o.len, o.nod, fun i a c e1 e2 => by
  have q := o.cel i a c e1 e2
  by_cases l : c.live = true
  · obtain ⟨u, hu⟩ := q.there l
    exact q.mono Pfx.refl (Gz_ex e) ((e a u hu).trans hu.symm)
  · cases c with
    | dead => trivial
    | _ => exact absurd rfl l, fun a m => by
  obtain ⟨n, u, h, su⟩ := o.hid a m
  exact ⟨n, u, e a u h, su⟩⟩
/-- one more cell's place -/
def Th.add (th : Th) (p : Addr) : Th := ⟨th.ids ++ [p], th.hid⟩
theorem Pfx.add {p : Addr} : Pfx th (th.add p) := ⟨⟨[p], rfl⟩, rfl⟩
/-- a new cell -/
theorem Ok.push (o : Ok g th mu H) {p : Addr} {u : HO} {c : Cell} (hp : H p = none) (l : c.live = true)
    (h : ∀ th' G', Pfx th th' → Ex (Gz th mu H) G' → CellOk g th' G' (upd H p u) p c) : Ok g (th.add p) (mu ++ [c]) (upd H p u) ∧ Gz (th.add p) (mu ++ [c]) (upd H p u) = Gz th mu H := by
  have np := o.new hp
  have ea : own (th.add p).ids (mu ++ [c]) = own th.ids mu ++ [p] := own_app o.len l
  have eg : Gz (th.add p) (mu ++ [c]) (upd H p u) = Gz th mu H := by
    funext a
    unfold Gz
    rw [ea]
    show (if a ∈ own th.ids mu ++ [p] ∨ a ∈ th.hid then none else upd H p u a) = if a ∈ own th.ids mu ∨ a ∈ th.hid then none else H a
    by_cases ha : a = p
    · subst ha
      rw [if_pos (by simp), if_neg np, hp]
    · by_cases m : a ∈ own th.ids mu ∨ a ∈ th.hid
      · rw [if_pos (by rcases m with m | m <;> simp [m]), if_pos m]
      · rw [if_neg (by simpa [ha] using m), if_neg m, upd_ne ha]
  refine ⟨⟨by simp [Th.add, o.len], ?_, fun i a d e1 e2 => ?_, fun a m => ?_⟩, eg⟩
  · rw [ea]
    refine List.nodup_append.mpr ⟨o.nod, by simp, fun x hx y hy => ?_⟩
    rintro rfl
    exact np (.inl (by simpa [List.mem_singleton.mp hy] using hx))
  · rw [eg]
    have e1 : (th.ids ++ [p])[i]? = some a := e1
    by_cases hi : i < th.ids.length
    · rw [List.getElem?_append_left hi] at e1
      rw [List.getElem?_append_left (by rw [← o.len]; exact hi)] at e2
      have q := o.cel i a d e1 e2
      by_cases ld : d.live = true
      · obtain ⟨x, hx⟩ := q.there ld
        exact q.mono Pfx.add (fun _ _ z => z) (upd_ne (ne_of_none hx hp))
      · cases d with
        | dead => trivial
        | _ => exact absurd rfl ld
    · have h1 : i = th.ids.length := by
        have := (List.getElem?_eq_some_iff.mp e1).1
        simp at this; omega
      subst h1
      have q1 : p = a := by simpa using e1
      have q2 : c = d := by
        rw [o.len] at e2
        simpa using e2
      subst q1 q2
      exact h _ _ Pfx.add (fun _ _ z => z)
  · obtain ⟨n, x, hx, su⟩ := o.hid a m
    have ne : a ≠ p := ne_of_none hx hp
    refine ⟨?_, x, by rw [upd_ne ne]; exact hx, su⟩
    rw [ea]
    simpa [ne] using n
/-- a cell is written -/
theorem Ok.write (o : Ok g th mu H) {i : Nat} {a : Addr} {c c' : Cell} {u : HO} (ha : th.ids[i]? = some a) (hc : mu[i]? = some c) (l : c.live = true) (l' : c'.live = true)
    (h : CellOk g th (Gz th mu H) (upd H a u) a c') : Ok g th (mu.set i c') (upd H a u) ∧ Gz th (mu.set i c') (upd H a u) = Gz th mu H ∧ ∀ b ∈ th.hid, upd H a u b = H b := by
  have eo : own th.ids (mu.set i c') = own th.ids mu := own_set_live hc (l.trans l'.symm)
  have ma : a ∈ own th.ids mu := own_mem.mpr ⟨i, c, ha, hc, l⟩
  have eg : Gz th (mu.set i c') (upd H a u) = Gz th mu H := by
    funext b
    unfold Gz
    rw [eo]
    by_cases m : b ∈ own th.ids mu ∨ b ∈ th.hid
    · rw [if_pos m, if_pos m]
    · rw [if_neg m, if_neg m, upd_ne (fun z => m (.inl (by rw [z]; exact ma)))]
  have nh : ∀ b ∈ th.hid, b ≠ a := fun b m z => (o.hid b m).1 (by rw [z]; exact ma)
  refine ⟨⟨by simp [o.len], by rw [eo]; exact o.nod, fun j b d e1 e2 => ?_, fun b m => ?_⟩, eg, fun b m => upd_ne (nh b m)⟩
  · rw [eg]
    by_cases hj : j = i
    · subst hj
      rw [ha] at e1; cases e1
      have : c' = d := by
        rw [List.getElem?_set_self ((List.getElem?_eq_some_iff.mp hc).1)] at e2
        exact Option.some.inj e2
      subst this
      exact h
    · rw [List.getElem?_set_ne (Ne.symm hj)] at e2
      have q := o.cel j b d e1 e2
      by_cases ld : d.live = true
      · have nb : b ≠ a := by
          rintro rfl
          exact hj (own_inj o.nod e1 ha e2 hc ld l)
        exact q.mono Pfx.refl (fun _ _ z => z) (upd_ne nb)
      · cases d with
        | dead => trivial
        | _ => exact absurd rfl ld
  · obtain ⟨n, x, hx, su⟩ := o.hid b m
    exact ⟨by rw [eo]; exact n, x, by rw [upd_ne (nh b m)]; exact hx, su⟩
/-- a cell is frozen -/
theorem Ok.freeze (o : Ok g th mu H) {i : Nat} {a : Addr} {c : Cell} (ha : th.ids[i]? = some a) (hc : mu[i]? = some c) (l : c.live = true) :
    Ok g th (mu.set i .dead) H ∧ Ex (Gz th mu H) (Gz th (mu.set i .dead) H) ∧ Gz th (mu.set i .dead) H a = H a := by
  have hi : i < mu.length := (List.getElem?_eq_some_iff.mp hc).1
  have sub : ∀ b, b ∈ own th.ids (mu.set i .dead) → b ∈ own th.ids mu ∧ b ≠ a := fun b m => by
    obtain ⟨j, d, e1, e2, e3⟩ := own_mem.mp m
    have hj : j ≠ i := by
      rintro rfl
      rw [List.getElem?_set_self hi] at e2
      have := Option.some.inj e2
      subst this
      cases e3
    rw [List.getElem?_set_ne (Ne.symm hj)] at e2
    refine ⟨own_mem.mpr ⟨j, d, e1, e2, e3⟩, ?_⟩
    rintro rfl
    exact hj (own_inj o.nod e1 ha e2 hc e3 l)
  have ee : Ex (Gz th mu H) (Gz th (mu.set i .dead) H) := fun b u q => by
    unfold Gz at q ⊢
    by_cases m : b ∈ own th.ids mu ∨ b ∈ th.hid
    · rw [if_pos m] at q; cases q
    · rw [if_neg m] at q
      rw [if_neg (fun z => m (z.imp (fun z => (sub b z).1) id))]
      exact q
  refine ⟨⟨by simp [o.len], ?_, fun j b d e1 e2 => ?_, fun b m => ?_⟩, ee, ?_⟩
  · have gen : ∀ (th : List Addr) (mu : Mu) (i : Nat), (own th (mu.set i .dead)).Sublist (own th mu) := by
      intro th
      induction th with
      | nil => intro mu i; simp [own]
      | cons b th ih =>
        intro mu i
        cases mu with
        | nil => simp [own]
        | cons d mu =>
          cases i with
          | zero =>
            show (own (b :: th) (.dead :: mu)).Sublist (own (b :: th) (d :: mu))
            unfold own
            rw [if_neg (by simp [Cell.live])]
            by_cases hd : d.live = true
            · rw [if_pos hd]; exact List.sublist_cons_self _ _
            · rw [if_neg hd]; exact List.Sublist.refl _
          | succ i =>
            show (own (b :: th) (d :: mu.set i .dead)).Sublist (own (b :: th) (d :: mu))
            unfold own
            by_cases hd : d.live = true
            · rw [if_pos hd, if_pos hd]; exact (ih mu i).cons_cons _
            · rw [if_neg hd, if_neg hd]; exact ih mu i
    exact o.nod.sublist (gen th.ids mu i)
  · by_cases hj : j = i
    · subst hj
      rw [List.getElem?_set_self hi] at e2
      have := Option.some.inj e2
      subst this
      trivial
    · rw [List.getElem?_set_ne (Ne.symm hj)] at e2
      exact (o.cel j b d e1 e2).mono Pfx.refl ee rfl
  · obtain ⟨n, x, hx, su⟩ := o.hid b m
    exact ⟨fun z => n (sub b z).1, x, hx, su⟩
  · unfold Gz
    have nh : a ∉ th.hid := fun m => (o.hid a m).1 (own_mem.mpr ⟨i, c, ha, hc, l⟩)
    rw [if_neg fun m => m.elim (fun m => (sub a m).2 rfl) nh]
/-! ### an object is hidden for a while (a list that a comprehension makes) -/
def Th.hide (th : Th) (p : Addr) : Th := ⟨th.ids, p :: th.hid⟩
end
mutual
theorem Rp.ids {g : Gam} {th th' : Th} {G : Hp} (e : th'.ids = th.ids) : ∀ (d : D) (v : V), Rp g th G d v → Rp g th' G d v
  | .non, v, h => h
  | .bl _, v, h => h
  | .int _, v, h => h
  | .str _, v, h => h
  | .tup ds, v, h => by
    obtain ⟨a, xs, e1, e2, e3⟩ := h
    exact ⟨a, xs, e1, e2, RpL.ids e ds xs e3⟩
  | .lst ds, v, h => by
    obtain ⟨a, xs, e1, e2, e3⟩ := h
    exact ⟨a, xs, e1, e2, RpL.ids e ds xs e3⟩
  | .ins c ds, v, h => by
    obtain ⟨a, dx, ys, xs, e1, e2, e3, e4, e5⟩ := h
    exact ⟨a, dx, ys, xs, e1, e2, e3, e4, RpL.ids e ds xs e5⟩
  | .set ns, v, h => h
  | .cel k, v, h => by
    obtain ⟨a, e1, e2⟩ := h
    exact ⟨a, e1, by rw [e]; exact e2⟩
  | .scr ns, v, h => h
  | .ty _, v, h => h
  | .cls _, v, h => h
  | .dic ks ds, v, h => by
    obtain ⟨a, o, xs, e1, e2, e3, e4, e5, e6⟩ := h
    exact ⟨a, o, xs, e1, e2, e3, e4, e5, RpL.ids e ds xs e6⟩
  | .exn c fs, v, h => by
    obtain ⟨a, dd, e1, e2, h⟩ := h
    refine ⟨a, dd, e1, e2, ?_⟩
    rcases h with h | ⟨da, ys, xs, q1, q2, q3, q4⟩
    · exact .inl h
    · exact .inr ⟨da, ys, xs, q1, q2, q3, RpL.ids e fs xs q4⟩
theorem RpL.ids {g : Gam} {th th' : Th} {G : Hp} (e : th'.ids = th.ids) : ∀ (ds : List D) (vs : List V), RpL g th G ds vs → RpL g th' G ds vs
  | [], vs, h => h
  | d :: ds, vs, h => by
    obtain ⟨v, r, e1, e2, e3⟩ := h
    exact ⟨v, r, e1, Rp.ids e d v e2, RpL.ids e ds r e3⟩
end
theorem CellOk.ids {g : Gam} {th th' : Th} {G H : Hp} {a : Addr} (e : th'.ids = th.ids) : ∀ {c : Cell}, CellOk g th G H a c → CellOk g th' G H a c
  | .lst ds, x => by
    obtain ⟨xs, e1, e2⟩ := x
    exact ⟨xs, e1, RpL.ids e _ _ e2⟩
  | .dic ks ds, x => by
    obtain ⟨xs, e1, e2, e3, e4, e5⟩ := x
    exact ⟨xs, e1, e2, e3, e4, RpL.ids e _ _ e5⟩
  | .ins c ds, x => by
    obtain ⟨dx, ys, xs, e1, e2, e3, e4⟩ := x
    exact ⟨dx, ys, xs, e1, e2, e3, RpL.ids e _ _ e4⟩
  | .dead, _ => trivial
section
variable {g : Gam} {th : Th} {mu : Mu} {H : Hp} {p : Addr} {o o' : HO}
/-- hidden, an object may be what it will -/
theorem Gz_hide (hn : ¬ (p ∈ own th.ids mu ∨ p ∈ th.hid)) : Gz (th.hide p) mu (upd H p o) = Gz (th.hide p) mu H := by
  funext a
  unfold Gz
  by_cases m : a ∈ own (th.hide p).ids mu ∨ a ∈ (th.hide p).hid
  · rw [if_pos m, if_pos m]
  · rw [if_neg m, if_neg m, upd_ne]
    rintro rfl
    exact m (.inr List.mem_cons_self)
theorem Gz_hide0 (h : H p = none) : Gz (th.hide p) mu H = Gz th mu H := by
  funext a
  unfold Gz
  show (if a ∈ own th.ids mu ∨ a ∈ p :: th.hid then none else H a) = if a ∈ own th.ids mu ∨ a ∈ th.hid then none else H a
  by_cases ha : a = p
  · subst ha
    rw [if_pos (.inr List.mem_cons_self), h]
    split <;> rfl
  · by_cases m : a ∈ own th.ids mu ∨ a ∈ th.hid
    · rw [if_pos (m.imp id (List.mem_cons_of_mem _)), if_pos m]
    · rw [if_neg (by simpa [ha] using m), if_neg m]
theorem Ok.hide (k : Ok g th mu H) (h : H p = none) (so : Solid o) : Ok g (th.hide p) mu (upd H p o) := by
  have np := k.new h
  have eg : Gz (th.hide p) mu (upd H p o) = Gz th mu H := (Gz_hide np).trans (Gz_hide0 h)
  refine ⟨k.len, k.nod, fun i a c e1 e2 => ?_, fun a m => ?_⟩
  · rw [eg]
    have q := k.cel i a c e1 e2
    by_cases l : c.live = true
    · obtain ⟨u, hu⟩ := q.there l
      exact CellOk.ids (th := th) (th' := th.hide p) rfl (q.mono Pfx.refl (fun _ _ z => z) (upd_ne (ne_of_none hu h)))
    · cases c with
      | dead => trivial
      | _ => exact absurd rfl l
  · rcases List.mem_cons.mp m with rfl | m
    · exact ⟨fun z => np (.inl z), o, upd_same, so⟩
    · obtain ⟨n, u, hu, su⟩ := k.hid a m
      exact ⟨n, u, by rw [upd_ne (ne_of_none hu h)]; exact hu, su⟩
/-- the hidden object changes -/
theorem Ok.rehide (k : Ok g (th.hide p) mu H) (hn : p ∉ own th.ids mu) (so : Solid o) : Ok g (th.hide p) mu (upd H p o) := by
  have eg : Gz (th.hide p) mu (upd H p o) = Gz (th.hide p) mu H := by
    funext a
    unfold Gz
    by_cases m : a ∈ own (th.hide p).ids mu ∨ a ∈ (th.hide p).hid
    · rw [if_pos m, if_pos m]
    · rw [if_neg m, if_neg m, upd_ne]
      rintro rfl
      exact m (.inr List.mem_cons_self)
  refine ⟨k.len, k.nod, fun i a c e1 e2 => ?_, fun a m => ?_⟩
  · rw [eg]
    have q := k.cel i a c e1 e2
    by_cases l : c.live = true
    · have na : a ≠ p := by
        rintro rfl
        exact hn (own_mem.mpr ⟨i, c, e1, e2, l⟩)
      exact q.mono Pfx.refl (fun _ _ z => z) (upd_ne na)
    · cases c with
      | dead => trivial
      | _ => exact absurd rfl l
  · obtain ⟨n, u, hu, su⟩ := k.hid a m
    by_cases ha : a = p
    · subst ha; exact ⟨n, o, upd_same, so⟩
    · exact ⟨n, u, by rw [upd_ne ha]; exact hu, su⟩
/-- .. and is shown again -/
theorem Ok.unhide (k : Ok g (th.hide p) mu H) (nh : p ∉ th.hid) : Ok g th mu H ∧ Ex (Gz (th.hide p) mu H) (Gz th mu H) ∧ Gz th mu H p = H p := by
  have ee : Ex (Gz (th.hide p) mu H) (Gz th mu H) := fun a u q => by
    unfold Gz at q ⊢
    by_cases m : a ∈ own (th.hide p).ids mu ∨ a ∈ (th.hide p).hid
    · rw [if_pos m] at q; cases q
    · rw [if_neg m] at q
      rw [if_neg fun z => m (z.imp id (List.mem_cons_of_mem _))]
      exact q
  refine ⟨⟨k.len, k.nod, fun i a c e1 e2 => CellOk.ids (th := th.hide p) (th' := th) rfl ((k.cel i a c e1 e2).mono Pfx.refl ee rfl), fun a m => k.hid a (List.mem_cons_of_mem _ m)⟩, ee, ?_⟩
  unfold Gz
  rw [if_neg fun z => z.elim (fun z => (k.hid p List.mem_cons_self).1 z) nh]
end
end Eb

/-! Eb: what an expression and a statement do, by data; the canonical readings. -/
namespace Eb
open PySem L2
open Evl (Ex ex_l ex_t)
inductive Rs (α : Type) where
  | ok (a : α)
  | er (x : Exn)
abbrev M (α : Type) := Rho → Mu → Option (Rs α × Mu)
abbrev ME := M D
inductive Out where
  | nx (r : Rho) | rt (d : D) | bk (r : Rho) | ct (r : Rho) | er (x : Exn) (r : Rho)
abbrev MS := Rho → Mu → Option (Out × Mu)
abbrev Phi := List D → Mu → Option (Rs D × Mu)

structure Rl (g : Gam) (rh : Rho) (mu : Mu) (th : Th) (σ : L2.St) (H : Hp) : Prop where
  ok : Ok g th mu H
  len : rh.length = σ.length
  slt : ∀ (i : Nat) d, rh[i]? = some (some d) → ∃ v, σ[i]? = some (some v) ∧ Rp g th (Gz th mu H) d v
/-- the state goes on -/
structure Fw (g : Gam) (th : Th) (mu : Mu) (H : Hp) (th' : Th) (mu' : Mu) (H' : Hp) : Prop where
  pf : Pfx th th'
  ok : Ok g th' mu' H'
  ex : Ex (Gz th mu H) (Gz th' mu' H')
  hd : ∀ a ∈ th.hid, H' a = H a
def RpX (g : Gam) (th : Th) (G : Hp) (x : Exn) (cls : Value) (dd : Option Addr) : Prop :=
  cls = .ref (g.cls x.c) ∧ ((x.fs = [] ∧ dd = none) ∨ ∃ da ys xs, dd = some da ∧ G da = some (.xd ys) ∧ ys = (g.flds x.c).zip xs ∧ RpL g th G x.fs xs)
section
variable {g : Gam} {th th1 th2 : Th} {mu mu1 mu2 : Mu} {H H1 H2 : Hp} {rh : Rho} {σ : L2.St}
theorem Fw.refl (o : Ok g th mu H) : Fw g th mu H th mu H := ⟨Pfx.refl, o, fun _ _ z => z, fun _ _ => rfl⟩
theorem Fw.trans (a : Fw g th mu H th1 mu1 H1) (b : Fw g th1 mu1 H1 th2 mu2 H2) : Fw g th mu H th2 mu2 H2 := ⟨a.pf.trans b.pf, b.ok, a.ex.trans b.ex, fun x m => (b.hd x (by rw [a.pf.hid]; exact m)).trans (a.hd x m)⟩
theorem Fw.heap (o : Ok g th mu H) (e : Ex H H1) : Fw g th mu H th mu H1 := ⟨Pfx.refl, o.ex e, Gz_ex e, fun a m => by
  obtain ⟨_, u, hu, _⟩ := o.hid a m
  rw [hu]; exact e a u hu⟩
theorem Rl.fw (r : Rl g rh mu th σ H) (f : Fw g th mu H th1 mu1 H1) : Rl g rh mu1 th1 σ H1 := ⟨f.ok, r.len, fun i d e => by
  obtain ⟨v, e1, e2⟩ := r.slt i d e
  exact ⟨v, e1, e2.mono f.pf f.ex⟩⟩
end

/-! ### readings -/
section
variable {α β α' β' : Type}
def bindM (m : M α) (k : α → M β) : M β := fun rh mu => match m rh mu with
  | some (.ok a, mu1) => k a rh mu1
  | some (.er x, mu1) => some (.er x, mu1)
  | none => none
def canAt (g : Gam) (W : WX) (R : Th → Hp → α → β → Prop) (m : M α) (rh : Rho) (mu : Mu) (th : Th) (σ : L2.St) (H : Hp) (Q : β → Hp → Prop) : Prop :=
  ∃ r mu', m rh mu = some (r, mu') ∧ match r with
    | .ok a => ∀ th' b H', Fw g th mu H th' mu' H' → R th' (Gz th' mu' H') a b → Q b H'
    | .er x => ∀ th' cls dd H', Fw g th mu H th' mu' H' → RpX g th' (Gz th' mu' H') x cls dd → W cls dd σ H'
def can (g : Gam) (W : WX) (R : Th → Hp → α → β → Prop) (m : M α) : L2.St → Hp → (β → Hp → Prop) → Prop := fun σ H Q =>
  ∃ rh mu th, Rl g rh mu th σ H ∧ canAt g W R m rh mu th σ H Q
variable {g : Gam} {W : WX} {R : Th → Hp → α → β → Prop} {R' : Th → Hp → α' → β' → Prop} {rh : Rho} {mu : Mu} {th : Th} {σ : L2.St} {H : Hp}
theorem canAt_bind {m : M α} {k : α → M α'} {Q : β' → Hp → Prop} (r : Rl g rh mu th σ H) (h : canAt g W R' (bindM m k) rh mu th σ H Q) :
    canAt g W R m rh mu th σ H fun b H1 => ∃ a mu1 th1, Fw g th mu H th1 mu1 H1 ∧ R th1 (Gz th1 mu1 H1) a b ∧ Rl g rh mu1 th1 σ H1 ∧ canAt g W R' (k a) rh mu1 th1 σ H1 Q := by
  obtain ⟨s, mu', e, q⟩ := h
  unfold bindM at e
  cases hm : m rh mu with
  | none => rw [hm] at e; cases e
  | some p =>
    obtain ⟨t, mu1⟩ := p
    rw [hm] at e
    cases t with
    | er x =>
      have e' : (Rs.er x, mu1) = (s, mu') := Option.some.inj e
      cases e'
      exact ⟨.er x, _, hm, q⟩
    | ok a =>
      refine ⟨.ok a, mu1, hm, fun th1 b H1 f hr => ⟨a, mu1, th1, f, hr, r.fw f, s, mu', e, ?_⟩⟩
      cases s with
      | ok a' => exact fun th' b' H' f' hr' => q th' b' H' (f.trans f') hr'
      | er x => exact fun th' cls dd H' f' hr' => q th' cls dd H' (f.trans f') hr'
theorem canAt.imp {m : M α} {Q Q' : β → Hp → Prop} (h : canAt g W R m rh mu th σ H Q) (k : ∀ b H', Q b H' → Q' b H') : canAt g W R m rh mu th σ H Q' := by
  obtain ⟨s, mu', e, q⟩ := h
  refine ⟨s, mu', e, ?_⟩
  cases s with
  | ok a => exact fun th' b H' f hr => k _ _ (q th' b H' f hr)
  | er x => exact q
theorem can_bind {m : M α} {k : α → M α'} {Q : β' → Hp → Prop} (h : can g W R' (bindM m k) σ H Q) :
    can g W R m σ H fun b H1 => ∃ a rh mu1 th1, R th1 (Gz th1 mu1 H1) a b ∧ Rl g rh mu1 th1 σ H1 ∧ canAt g W R' (k a) rh mu1 th1 σ H1 Q := by
  obtain ⟨rh, mu, th, r, h⟩ := h
  exact ⟨rh, mu, th, r, (canAt_bind r h).imp fun b H' ⟨a, mu1, th1, _, q⟩ => ⟨a, rh, mu1, th1, q⟩⟩
theorem can.imp {m : M α} {Q Q' : β → Hp → Prop} (h : can g W R m σ H Q) (k : ∀ b H', Q b H' → Q' b H') : can g W R m σ H Q' := by
  obtain ⟨rh, mu, th, r, h⟩ := h
  exact ⟨rh, mu, th, r, h.imp k⟩
end
abbrev RE (g : Gam) : Th → Hp → D → V → Prop := fun th G d v => Rp g th G d v
abbrev RA (g : Gam) : Th → Hp → List D → List V → Prop := fun th G d v => RpL g th G d v
abbrev RT : Th → Hp → Bool → Bool → Prop := fun _ _ a b => a = b
abbrev canE (g : Gam) (W : WX) (m : ME) : TE := can g W (RE g) m
abbrev canT (g : Gam) (W : WX) (m : M Bool) : TT := can g W RT m
abbrev canA (g : Gam) (W : WX) (m : M (List D)) : TA := can g W (RA g) m
/-- a pure step on data -/
def lift {α : Type} (f : Mu → Option α) : M α := fun _ mu => (f mu).map fun a => (.ok a, mu)
/-- how a pure step is met: from a state where it gives a, its reading holds -/
theorem canAt_lift {α β : Type} {g : Gam} {W : WX} {R : Th → Hp → α → β → Prop} {f : Mu → Option α} {rh : Rho} {mu : Mu} {th : Th} {σ : L2.St} {H : Hp} {Q : β → Hp → Prop} (r : Rl g rh mu th σ H) (h : canAt g W R (lift f) rh mu th σ H Q) :
    ∃ a, f mu = some a ∧ ∀ th' b H', Fw g th mu H th' mu H' → R th' (Gz th' mu H') a b → Q b H' := by
  obtain ⟨s, mu', e, q⟩ := h
  unfold lift at e
  cases hf : f mu with
  | none => rw [hf] at e; cases e
  | some a =>
    rw [hf] at e
    have e' : (Rs.ok a, mu) = (s, mu') := Option.some.inj e
    cases e'
    exact ⟨a, rfl, q⟩

/-! ### rules -/
section
variable {X : Cx} {g : Gam} {W : WX} {e a b c : Expr} {es : List Expr} {pos : Pos} {ma mb mc : ME} {mt mt' : M Bool}
theorem PEimp {t t' : TE} (h : PE X e t) (q : ∀ σ H Q, t' σ H Q → t σ H Q) : PE X e t' := ⟨fun pins s σ H Q I hw => h.run pins s σ H Q I (q _ _ _ hw)⟩
theorem PTimp {t t' : TT} (h : PT X e t) (q : ∀ σ H Q, t' σ H Q → t σ H Q) : PT X e t' := ⟨fun pins s σ H Q I hw => h.run pins s σ H Q I (q _ _ _ hw)⟩
theorem PWimp {t t' : TT} (h : PW X e t) (q : ∀ σ H Q, t' σ H Q → t σ H Q) : PW X e t' := ⟨fun wh pins s σ H Q I hw => h.run wh pins s σ H Q I (q _ _ _ hw)⟩
theorem PAimp {t t' : TA} (h : PA X es t) (q : ∀ σ H Q, t' σ H Q → t σ H Q) : PA X es t' := ⟨fun pos pins s σ H Q I hw => h.run pos pins s σ H Q I (q _ _ _ hw)⟩
theorem PSimp {st : Stmt} {t t' : TS} (h : PS X st t) (q : ∀ D σ H, t' D σ H → t D σ H) : PS X st t' := ⟨fun pins s σ H D I hw => h.run pins s σ H D I (q _ _ _ hw)⟩
theorem PSsimp {st : List Stmt} {t t' : TS} (h : PSs X st t) (q : ∀ D σ H, t' D σ H → t D σ H) : PSs X st t' := ⟨fun pins s σ H D I hw => h.run pins s σ H D I (q _ _ _ hw)⟩

def mVar (i : Nat) : ME := fun rh mu => match rh[i]? with
  | some (some d) => some (.ok d, mu)
  | _ => none
def mC (d : D) : ME := fun _ mu => some (.ok d, mu)
theorem can_var {i : Nat} {σ : L2.St} {H : Hp} {Q : VK} (h : canE g W (mVar i) σ H Q) : tVar i σ H Q := by
  obtain ⟨rh, mu, th, r, s, mu', e, q⟩ := h
  unfold mVar at e
  split at e
  · rename_i d hd
    have e' : (Rs.ok d, mu) = (s, mu') := Option.some.inj e
    cases e'
    obtain ⟨v, e1, e2⟩ := r.slt i d hd
    exact ⟨v, e1, q th v H (Fw.refl r.ok) e2⟩
  · cases e
theorem pm_var (i : Nat) {x : Str} {pos : Pos} (hN : X.N[i]? = some x := by rfl) (hv : Vis X.env.scope x := by first | exact Or.inl rfl | exact Or.inr (Or.inl rfl) | exact Or.inr (Or.inr rfl)) (hd : (x == ("__debug__" : Str)) = false := by decide)
    (hcd : (x == ("__classdict__" : Str)) = false := by decide) : PE X (.Name x pos) (canE g W (mVar i)) := PEimp (pe_var hN hv hd hcd) fun _ _ _ => can_var
theorem can_c {d : D} {v : V} (hr : ∀ th G, Rp g th G d v) {σ : L2.St} {H : Hp} {Q : VK} (h : canE g W (mC d) σ H Q) : tC v σ H Q := by
  obtain ⟨rh, mu, th, r, s, mu', e, q⟩ := h
  have e' : (Rs.ok d, mu) = (s, mu') := Option.some.inj e
  cases e'
  exact q th v H (Fw.refl r.ok) (hr _ _)
theorem pm_int {i j pos} : PE X (.Constant (.int i) j pos) (canE g W (mC (.int i))) := PEimp pe_int fun _ _ _ => can_c (d := .int i) fun _ _ => rfl
theorem pm_bl {b j pos} : PE X (.Constant (.bool b) j pos) (canE g W (mC (.bl b))) := PEimp pe_bl fun _ _ _ => can_c (d := .bl b) fun _ _ => rfl
theorem pm_non {j pos} : PE X (.Constant .none j pos) (canE g W (mC .non)) := PEimp pe_non fun _ _ _ => can_c (d := .non) fun _ _ => rfl
theorem pm_str {x j pos} : PE X (.Constant (.str x) j pos) (canE g W (mC (.str x))) := PEimp pe_str fun _ _ _ => can_c (d := .str x) fun _ _ => rfl
theorem pm_glob {x : Str} {d : D} {v : V} {u : Value} {pos : Pos} (hr : ∀ th G, Rp g th G d v) (hm : X.mg x = some u) (r : RelV v u) (hg : Gl X x := by rfl) (hd : (x == ("__debug__" : Str)) = false := by decide) : PE X (.Name x pos) (canE g W (mC d)) :=
  PEimp (pe_glob hg hm r hd) fun _ _ _ => can_c hr

/-! two-place operations -/
/-- f's answer is what the rule r tells of the values -/
def OpImp (g : Gam) (r : R2) (f : Mu → D → D → Option D) : Prop :=
  ∀ th mu H x y v u d, Ok g th mu H → Rp g th (Gz th mu H) x v → Rp g th (Gz th mu H) y u → f mu x y = some d → ∀ Q : VK, (∀ w H', Ex H H' → Rp g th (Gz th mu H') d w → Q w H') → r v u H Q
structure OpM (X : Cx) (g : Gam) (o : Value → Value → Sem Value) (f : Mu → D → D → Option D) : Prop where
  ex : ∃ r, OpR X o r ∧ OpImp g r f
theorem OpM.mk' {o : Value → Value → Sem Value} {r : R2} {f : Mu → D → D → Option D} (h : OpR X o r) (q : OpImp g r f) : OpM X g o f := ⟨⟨r, h, q⟩⟩
/-- two rules in one -/
theorem OpM.or {o : Value → Value → Sem Value} {f1 f2 f : Mu → D → D → Option D} (h1 : OpM X g o f1) (h2 : OpM X g o f2) (h : ∀ mu x y d, f mu x y = some d → f1 mu x y = some d ∨ f2 mu x y = some d) : OpM X g o f := by
  obtain ⟨r1, a1, b1⟩ := h1.ex
  obtain ⟨r2, a2, b2⟩ := h2.ex
  refine ⟨_, a1.or a2, fun th mu H x y v u d o hx hy e Q q => ?_⟩
  rcases h mu x y d e with e | e
  · exact .inl (b1 th mu H x y v u d o hx hy e Q q)
  · exact .inr (b2 th mu H x y v u d o hx hy e Q q)
def mOp (f : Mu → D → D → Option D) (ma mb : ME) : ME := bindM ma fun x => bindM mb fun y => lift fun mu => f mu x y
theorem can_op {r : R2} {f : Mu → D → D → Option D} (hi : OpImp g r f) {σ : L2.St} {H : Hp} {Q : VK} (h : canE g W (mOp f ma mb) σ H Q) : tOp r (canE g W ma) (canE g W mb) σ H Q := by
  refine can.imp (can_bind (R := RE g) h) fun x H1 ⟨d, rh, mu1, th1, hx, r1, h1⟩ => ⟨rh, mu1, th1, r1, ?_⟩
  refine (canAt_bind (R := RE g) r1 h1).imp fun y H2 ⟨d2, mu2, th2, f2, hy, r2, h2⟩ => ?_
  obtain ⟨d', e, q⟩ := canAt_lift r2 h2
  exact hi th2 mu2 H2 d d2 x y d' r2.ok (hx.mono f2.pf f2.ex) hy e Q fun w H' ex hw => q th2 w H' (Fw.heap r2.ok ex) hw
theorem pm_op {op : Operator} {f : Mu → D → D → Option D} (ho : OpM X g (binaryOp op) f) (ha : PE X a (canE g W ma)) (hb : PE X b (canE g W mb)) : PE X (.BinOp a op b pos) (canE g W (mOp f ma mb)) := by
  obtain ⟨r, h1, h2⟩ := ho.ex
  exact PEimp (pe_op h1 ha hb) fun _ _ _ => can_op h2
theorem pm_cmp {op : CmpOp} {f : Mu → D → D → Option D} (ho : OpM X g (compareOp op) f) (ha : PE X a (canE g W ma)) (hb : PE X b (canE g W mb)) (hm : behindInMarks op b = false) : PE X (.Compare a [op] [b] pos) (canE g W (mOp f ma mb)) := by
  obtain ⟨r, h1, h2⟩ := ho.ex
  exact PEimp (pe_cmpR h1 ha hb hm) fun _ _ _ => can_op h2

/-! tests -/
def retM {α : Type} (a : α) : M α := fun _ mu => some (.ok a, mu)
def failM {α : Type} : M α := fun _ _ => none
def boolOf : D → Option Bool
  | .bl b => some b
  | _ => none
def mTest (m : ME) : M Bool := bindM m fun d => lift fun _ => boolOf d
theorem canAt_ret {α β : Type} {R : Th → Hp → α → β → Prop} {x : α} {rh : Rho} {mu : Mu} {th : Th} {σ : L2.St} {H : Hp} {Q : β → Hp → Prop} (r : Rl g rh mu th σ H) (h : canAt g W R (retM x) rh mu th σ H Q) :
    ∀ th' b H', Fw g th mu H th' mu H' → R th' (Gz th' mu H') x b → Q b H' := by
  obtain ⟨s, mu', e, q⟩ := h
  have e' : (Rs.ok x, mu) = (s, mu') := Option.some.inj e
  cases e'
  exact q
theorem can_test {σ : L2.St} {H : Hp} {Q : Bool → Hp → Prop} (h : canT g W (mTest ma) σ H Q) : canE g W ma σ H fun x H1 => ∃ k, x = .bl k ∧ Q k H1 :=
  (can_bind (R := RE g) h).imp fun x H1 ⟨d, rh, mu1, th1, hx, r1, h1⟩ => by
    obtain ⟨b, e, q⟩ := canAt_lift r1 h1
    cases d with
    | bl k =>
      have e' : k = b := Option.some.inj e
      subst e'
      exact ⟨k, hx, q th1 k H1 (Fw.refl r1.ok) rfl⟩
    | _ => cases e
theorem pmt_val (h : PE X e (canE g W ma)) (he : ∀ whole, isTrue e X.env whole = (do let v ← whole; standAt e.pos; holding [v] (truthy v)) := by intro _; rfl) : PT X e (canT g W (mTest ma)) :=
  PTimp (pt_val h he) fun _ _ _ => can_test
theorem pmt_cmp {op : CmpOp} {f : Mu → D → D → Option D} (ho : OpM X g (compareOp op) f) (ha : PE X a (canE g W ma)) (hb : PE X b (canE g W mb)) (hm : behindInMarks op b = false) : PT X (.Compare a [op] [b] pos) (canT g W (mTest (mOp f ma mb))) := by
  obtain ⟨r, h1, h2⟩ := ho.ex
  exact PTimp (pt_cmpR h1 ha hb hm) fun _ _ _ h => can_op h2 (can_test h)
/-- a comparison by its own rule (dicts) -/
theorem pmt_pc {op : CmpOp} (h : PC X op a b (canE g W ma)) (h1 : behindInMarks op b = false) : PT X (.Compare a [op] [b] pos) (canT g W (mTest ma)) := PTimp (pt_cmp h h1) fun _ _ _ h => can_test h
def mAnd (t u : M Bool) : M Bool := bindM t fun c => if c = true then u else retM false
def mOr (t u : M Bool) : M Bool := bindM t fun c => if c = true then retM true else u
def mNot (t : M Bool) : M Bool := bindM t fun c => retM (!c)
theorem can_of_at {α β : Type} {R : Th → Hp → α → β → Prop} {m : M α} {rh : Rho} {mu : Mu} {th : Th} {σ : L2.St} {H : Hp} {Q : β → Hp → Prop} (r : Rl g rh mu th σ H) (h : canAt g W R m rh mu th σ H Q) : can g W R m σ H Q := ⟨rh, mu, th, r, h⟩
theorem pmt_and1 {ps : Pos} (h : PT X a (canT g W mt)) : PW X (.BoolOp .And [a] ps) (canT g W mt) := pw_and1 h
theorem pmt_or1 {ps : Pos} (h : PT X a (canT g W mt)) : PW X (.BoolOp .Or [a] ps) (canT g W mt) := pw_or1 h
theorem pmt_and {ps : Pos} {rest : List Expr} (h : PT X a (canT g W mt)) (hb : PW X (.BoolOp .And (b :: rest) ps) (canT g W mt')) : PW X (.BoolOp .And (a :: b :: rest) ps) (canT g W (mAnd mt mt')) :=
  PWimp (pw_and h hb) fun σ H Q h => (can_bind (R := RT) h).imp fun c H1 ⟨d, rh, mu1, th1, hx, r1, h1⟩ => by
    subst hx
    cases d with
    | true => exact can_of_at r1 h1
    | false => exact canAt_ret (R := RT) r1 h1 th1 false H1 (Fw.refl r1.ok) rfl
theorem pmt_or {ps : Pos} {rest : List Expr} (h : PT X a (canT g W mt)) (hb : PW X (.BoolOp .Or (b :: rest) ps) (canT g W mt')) : PW X (.BoolOp .Or (a :: b :: rest) ps) (canT g W (mOr mt mt')) :=
  PWimp (pw_or h hb) fun σ H Q h => (can_bind (R := RT) h).imp fun c H1 ⟨d, rh, mu1, th1, hx, r1, h1⟩ => by
    subst hx
    cases d with
    | false => exact can_of_at r1 h1
    | true => exact canAt_ret (R := RT) r1 h1 th1 true H1 (Fw.refl r1.ok) rfl
theorem pmt_bool {op : BoolOp} {es : List Expr} {ps : Pos} (h : PW X (.BoolOp op es ps) (canT g W mt)) : PT X (.BoolOp op es ps) (canT g W mt) := h.pt
theorem pmt_not (h : PT X a (canT g W mt)) : PT X (.UnaryOp .Not a pos) (canT g W (mNot mt)) :=
  PTimp (pt_not h) fun σ H Q h => (can_bind (R := RT) h).imp fun c H1 ⟨d, rh, mu1, th1, hx, r1, h1⟩ => by
    subst hx
    exact canAt_ret (R := RT) r1 h1 th1 (!d) H1 (Fw.refl r1.ok) rfl
/-! and, or, not as values -/
def mAndV (ma mb : ME) : ME := bindM (mTest ma) fun c => if c = true then mb else retM (.bl false)
def mOrV (ma mb : ME) : ME := bindM (mTest ma) fun c => if c = true then retM (.bl true) else mb
theorem pm_one {op : BoolOp} (h : PE X a (canE g W ma)) : PE X (.BoolOp op [a] pos) (canE g W ma) := pe_one h
theorem pm_and {rest : List Expr} (ha : PE X a (canE g W ma)) (hb : PE X (.BoolOp .And (b :: rest) pos) (canE g W mb)) : PE X (.BoolOp .And (a :: b :: rest) pos) (canE g W (mAndV ma mb)) :=
  PEimp (pe_and ha hb) fun σ H Q h => (can_test (can_bind (R := RT) h)).imp fun x H1 ⟨k, ex, d, rh, mu1, th1, hx, r1, h1⟩ => by
    subst hx
    refine ⟨d, ex, ?_⟩
    cases d with
    | true => exact can_of_at r1 h1
    | false => exact canAt_ret (R := RE g) r1 h1 th1 (.bl false) H1 (Fw.refl r1.ok) rfl
theorem pm_or {rest : List Expr} (ha : PE X a (canE g W ma)) (hb : PE X (.BoolOp .Or (b :: rest) pos) (canE g W mb)) : PE X (.BoolOp .Or (a :: b :: rest) pos) (canE g W (mOrV ma mb)) :=
  PEimp (pe_or ha hb) fun σ H Q h => (can_test (can_bind (R := RT) h)).imp fun x H1 ⟨k, ex, d, rh, mu1, th1, hx, r1, h1⟩ => by
    subst hx
    refine ⟨d, ex, ?_⟩
    cases d with
    | false => exact can_of_at r1 h1
    | true => exact canAt_ret (R := RE g) r1 h1 th1 (.bl true) H1 (Fw.refl r1.ok) rfl
def mNotV (ma : ME) : ME := bindM (mTest ma) fun c => retM (.bl (!c))
theorem pm_not (ha : PE X a (canE g W ma)) : PE X (.UnaryOp .Not a pos) (canE g W (mNotV ma)) :=
  PEimp (pe_not ha) fun σ H Q h => (can_test (can_bind (R := RT) h)).imp fun x H1 ⟨k, ex, d, rh, mu1, th1, hx, r1, h1⟩ => by
    subst hx
    exact ⟨d, ex, canAt_ret (R := RE g) r1 h1 th1 (.bl (!d)) H1 (Fw.refl r1.ok) rfl⟩
def mIf (t : M Bool) (ma mb : ME) : ME := bindM t fun c => if c = true then ma else mb
theorem pm_if (ht : PT X c (canT g W mt)) (ha : PE X a (canE g W ma)) (hb : PE X b (canE g W mb)) : PE X (.IfExp c a b pos) (canE g W (mIf mt ma mb)) :=
  PEimp (pe_ifExp ht ha hb) fun σ H Q h => (can_bind (R := RT) h).imp fun k H1 ⟨d, rh, mu1, th1, hx, r1, h1⟩ => by
    subst hx
    cases d with
    | true => exact can_of_at r1 h1
    | false => exact can_of_at r1 h1
/-! chains of comparisons -/
def mCh (f f' : Mu → D → D → Option D) (ma mb mc : ME) : ME := bindM ma fun x => bindM mb fun y => bindM (lift fun mu => (f mu x y).bind boolOf) fun k => if k = true then bindM mc fun z => lift fun mu => f' mu y z else retM (.bl false)
theorem can_chain {r r' : R2} {f f' : Mu → D → D → Option D} (hi : OpImp g r f) (hi' : OpImp g r' f') {σ : L2.St} {H : Hp} {Q : VK} (h : canE g W (mCh f f' ma mb mc) σ H Q) :
    canE g W ma σ H fun x H1 => canE g W mb σ H1 fun y H2 => r x y H2 fun z H3 => ∃ k, z = .bl k ∧ (if k = true then canE g W mc σ H3 fun w' H4 => r' y w' H4 Q else Q (.bl false) H3) := by
  refine can.imp (can_bind (R := RE g) h) fun x H1 ⟨d, rh, mu1, th1, hx, r1, h1⟩ => ⟨rh, mu1, th1, r1, ?_⟩
  refine (canAt_bind (R := RE g) r1 h1).imp fun y H2 ⟨d2, mu2, th2, f2, hy, r2, h2⟩ => ?_
  obtain ⟨s, mu3, e3, q3⟩ := canAt_bind (R := RT) r2 h2
  have e3 : Option.map (fun a => (Rs.ok a, mu2)) ((f mu2 d d2).bind boolOf) = some (s, mu3) := e3
  cases hf : f mu2 d d2 with
  | none => rw [hf] at e3; cases e3
  | some dk =>
    rw [hf] at e3
    cases dk with
    | bl k =>
      have e4 : (Rs.ok k, mu2) = (s, mu3) := Option.some.inj e3
      cases e4
      refine hi th2 mu2 H2 d d2 x y (.bl k) r2.ok (hx.mono f2.pf f2.ex) hy hf _ fun w H3 ex hw => ⟨k, hw, ?_⟩
      obtain ⟨k', mu4, th4, f4, hk, r4, h4⟩ := q3 th2 k H3 (Fw.heap r2.ok ex) rfl
      subst hk
      cases k' with
      | false => exact canAt_ret (R := RE g) r4 h4 th4 (.bl false) H3 (Fw.refl r4.ok) rfl
      | true =>
        refine ⟨rh, mu4, th4, r4, (canAt_bind (R := RE g) r4 h4).imp fun z H5 ⟨d5, mu5, th5, f5, hz, r5, h5⟩ => ?_⟩
        obtain ⟨d6, e6, q6⟩ := canAt_lift r5 h5
        exact hi' th5 mu5 H5 d2 d5 y z d6 r5.ok (hy.mono (f4.trans f5).pf (f4.trans f5).ex) hz e6 Q fun w H' ex' hw' => q6 th5 w H' (Fw.heap r5.ok ex') hw'
    | _ => cases e3
theorem pm_chain {op op' : CmpOp} {f f' : Mu → D → D → Option D} (ho : OpM X g (compareOp op) f) (ho' : OpM X g (compareOp op') f') (ha : PE X a (canE g W ma)) (hb : PE X b (canE g W mb)) (hc : PE X c (canE g W mc))
    (hm : lastMarks [op, op'] [b, c] = false := by with_unfolding_all rfl) : PE X (.Compare a [op, op'] [b, c] pos) (canE g W (mCh f f' ma mb mc)) := by
  obtain ⟨r, h1, h2⟩ := ho.ex
  obtain ⟨r', h1', h2'⟩ := ho'.ex
  exact PEimp (pe_chain h1 h1' ha hb hc hm) fun _ _ _ => can_chain h2 h2'
theorem pmt_chain {op op' : CmpOp} {f f' : Mu → D → D → Option D} (ho : OpM X g (compareOp op) f) (ho' : OpM X g (compareOp op') f') (ha : PE X a (canE g W ma)) (hb : PE X b (canE g W mb)) (hc : PE X c (canE g W mc))
    (hm : lastMarks [op, op'] [b, c] = false := by with_unfolding_all rfl) : PT X (.Compare a [op, op'] [b, c] pos) (canT g W (mTest (mCh f f' ma mb mc))) := by
  obtain ⟨r, h1, h2⟩ := ho.ex
  obtain ⟨r', h1', h2'⟩ := ho'.ex
  exact PTimp (pt_chain h1 h1' ha hb hc hm) fun _ _ _ h => can_chain h2 h2' (can_test h)
/-! argument lists, displays -/
def mNil : M (List D) := retM []
def mCons (ma : ME) (mr : M (List D)) : M (List D) := bindM ma fun d => bindM mr fun ds => retM (d :: ds)
variable {mr : M (List D)}
theorem pma_nil : PA X [] (canA g W mNil) := PAimp pa_nil fun σ H Q ⟨rh, mu, th, r, h⟩ => canAt_ret (R := RA g) r h th [] H (Fw.refl r.ok) rfl
theorem pma_cons (ha : PE X e (canE g W ma)) (hr : PA X es (canA g W mr)) (hs : starEach (e :: es) X.env = (false, eval e X.env) :: starEach es X.env := by rfl) : PA X (e :: es) (canA g W (mCons ma mr)) :=
  PAimp (pa_cons ha hr hs) fun σ H Q h => (can_bind (R := RE g) h).imp fun x H1 ⟨d, rh, mu1, th1, hx, r1, h1⟩ => ⟨rh, mu1, th1, r1, (canAt_bind (R := RA g) r1 h1).imp fun xs H2 ⟨ds, mu2, th2, f2, hs, r2, h2⟩ =>
    canAt_ret (R := RA g) r2 h2 th2 (x :: xs) H2 (Fw.refl r2.ok) ⟨x, xs, rfl, hx.mono f2.pf f2.ex, hs⟩⟩
theorem rp_newTup {th : Th} {mu : Mu} {H : Hp} {p : Addr} {ds : List D} {xs : List V} (o : Ok g th mu H) (hp : H p = none) (h : RpL g th (Gz th mu H) ds xs) : Rp g th (Gz th mu (upd H p (.tup xs))) (.tup ds) (.ref p) := by
  have ex : Ex H (upd H p (.tup xs)) := Evl.Ex.new hp
  refine ⟨p, xs, rfl, .inl ?_, RpL.mono Pfx.refl (Gz_ex ex) _ _ h⟩
  unfold Gz
  rw [if_neg (o.new hp)]
  exact upd_same
theorem rp_newLst {th : Th} {mu : Mu} {H : Hp} {p : Addr} {ds : List D} {xs : List V} (o : Ok g th mu H) (hp : H p = none) (h : RpL g th (Gz th mu H) ds xs) : Rp g th (Gz th mu (upd H p (.lst xs))) (.lst ds) (.ref p) := by
  have ex : Ex H (upd H p (.lst xs)) := Evl.Ex.new hp
  refine ⟨p, xs, rfl, ?_, RpL.mono Pfx.refl (Gz_ex ex) _ _ h⟩
  unfold Gz
  rw [if_neg (o.new hp)]
  exact upd_same
def few (ds : List D) : Option (List D) := if ds.length ≤ 100000 then some ds else none
def mTup (mr : M (List D)) : ME := bindM mr fun ds => lift fun _ => (few ds).map .tup
theorem few_eq {ds es : List D} (h : few ds = some es) : es = ds ∧ ds.length ≤ 100000 := by
  unfold few at h
  split at h
  · exact ⟨(Option.some.inj h).symm, by assumption⟩
  · cases h
theorem pm_tup {k : Nat} (h : PA X es (canA g W mr)) : PE X (.Tuple es k pos) (canE g W (mTup mr)) :=
  PEimp (pe_tup h) fun σ H Q h => (can_bind (R := RA g) h).imp fun xs H1 ⟨ds, rh, mu1, th1, hx, r1, h1⟩ => by
    obtain ⟨d, e, q⟩ := canAt_lift r1 h1
    cases hf : few ds with
    | none => rw [hf] at e; cases e
    | some es =>
      rw [hf] at e
      obtain ⟨rfl, hl⟩ := few_eq hf
      have e' : D.tup es = d := Option.some.inj e
      subst e'
      refine ⟨Evl.sz_of (by rw [hx.length]; exact hl), fun p hp => ?_⟩
      exact q th1 _ _ (Fw.heap r1.ok (Evl.Ex.new hp)) (rp_newTup r1.ok hp hx)
def mLst (mr : M (List D)) : ME := bindM mr fun ds => lift fun _ => (few ds).map .lst
theorem pm_lst (h : PA X es (canA g W mr)) : PE X (.List es pos) (canE g W (mLst mr)) :=
  PEimp (pe_lst h) fun σ H Q h => (can_bind (R := RA g) h).imp fun xs H1 ⟨ds, rh, mu1, th1, hx, r1, h1⟩ => by
    obtain ⟨d, e, q⟩ := canAt_lift r1 h1
    cases hf : few ds with
    | none => rw [hf] at e; cases e
    | some es =>
      rw [hf] at e
      obtain ⟨rfl, hl⟩ := few_eq hf
      have e' : D.lst es = d := Option.some.inj e
      subst e'
      refine ⟨Evl.sz_of (by rw [hx.length]; exact hl), fun p hp => ?_⟩
      exact q th1 _ _ (Fw.heap r1.ok (Evl.Ex.new hp)) (rp_newLst r1.ok hp hx)
end
end Eb

/-! Eb: statements, loops, calls, comprehensions. -/
namespace Eb
open PySem L2
open Evl (Ex ex_l ex_t)
def canSAt (g : Gam) (W : WX) (m : MS) (rh : Rho) (mu : Mu) (th : Th) (Dn : Ends) (H : Hp) : Prop :=
  ∃ o mu', m rh mu = some (o, mu') ∧ match o with
    | .nx r' => ∀ th' σ' H', Fw g th mu H th' mu' H' → Rl g r' mu' th' σ' H' → Dn.nx σ' H'
    | .bk r' => ∀ th' σ' H', Fw g th mu H th' mu' H' → Rl g r' mu' th' σ' H' → Dn.bk σ' H'
    | .ct r' => ∀ th' σ' H', Fw g th mu H th' mu' H' → Rl g r' mu' th' σ' H' → Dn.ct σ' H'
    | .rt d => ∀ th' v H', Fw g th mu H th' mu' H' → Rp g th' (Gz th' mu' H') d v → Dn.rt v H'
    | .er x r' => ∀ th' cls dd σ' H', Fw g th mu H th' mu' H' → Rl g r' mu' th' σ' H' → RpX g th' (Gz th' mu' H') x cls dd → W cls dd σ' H'
def canS (g : Gam) (W : WX) (m : MS) : TS := fun Dn σ H => ∃ rh mu th, Rl g rh mu th σ H ∧ canSAt g W m rh mu th Dn H
/-- an outcome of a later state is one of an earlier -/
theorem canSAt_fw {g : Gam} {W : WX} {m m' : MS} {rh rh' : Rho} {mu mu1 : Mu} {th th1 : Th} {Dn : Ends} {H H1 : Hp} (f : Fw g th mu H th1 mu1 H1) (e : m rh mu = m' rh' mu1) (h : canSAt g W m rh mu th Dn H) : canSAt g W m' rh' mu1 th1 Dn H1 := by
  obtain ⟨o, mu', q, k⟩ := h
  refine ⟨o, mu', e ▸ q, ?_⟩
  cases o with
  | nx r => exact fun th' σ' H' f' => k th' σ' H' (f.trans f')
  | bk r => exact fun th' σ' H' f' => k th' σ' H' (f.trans f')
  | ct r => exact fun th' σ' H' f' => k th' σ' H' (f.trans f')
  | rt d => exact fun th' v H' f' => k th' v H' (f.trans f')
  | er x r => exact fun th' cls dd σ' H' f' => k th' cls dd σ' H' (f.trans f')
def bindS {α : Type} (m : M α) (k : α → MS) : MS := fun rh mu => match m rh mu with
  | some (.ok a, mu1) => k a rh mu1
  | some (.er x, mu1) => some (.er x rh, mu1)
  | none => none
section
variable {α β : Type} {g : Gam} {W : WX} {R : Th → Hp → α → β → Prop} {σ : L2.St} {H : Hp} {Dn : Ends} {rh : Rho} {mu : Mu} {th : Th}
theorem canSAt_bind {m : M α} {k : α → MS} (r : Rl g rh mu th σ H) (h : canSAt g W (bindS m k) rh mu th Dn H) :
    canAt g W R m rh mu th σ H fun b H1 => ∃ a mu1 th1, Fw g th mu H th1 mu1 H1 ∧ R th1 (Gz th1 mu1 H1) a b ∧ Rl g rh mu1 th1 σ H1 ∧ canSAt g W (k a) rh mu1 th1 Dn H1 := by
  obtain ⟨o, mu', e, q⟩ := h
  unfold bindS at e
  cases hm : m rh mu with
  | none => rw [hm] at e; cases e
  | some p =>
    obtain ⟨t, mu1⟩ := p
    rw [hm] at e
    cases t with
    | er x =>
      have e' : (Out.er x rh, mu1) = (o, mu') := Option.some.inj e
      cases e'
      exact ⟨.er x, _, hm, fun th' cls dd H' f hx => q th' cls dd σ H' f (r.fw f) hx⟩
    | ok a =>
      refine ⟨.ok a, mu1, hm, fun th1 b H1 f hr => ⟨a, mu1, th1, f, hr, r.fw f, ?_⟩⟩
      refine ⟨o, mu', e, ?_⟩
      cases o with
      | nx r => exact fun th' σ' H' f' => q th' σ' H' (f.trans f')
      | bk r => exact fun th' σ' H' f' => q th' σ' H' (f.trans f')
      | ct r => exact fun th' σ' H' f' => q th' σ' H' (f.trans f')
      | rt d => exact fun th' v H' f' => q th' v H' (f.trans f')
      | er x r => exact fun th' cls dd σ' H' f' => q th' cls dd σ' H' (f.trans f')
theorem canS_bind {m : M α} {k : α → MS} (h : canS g W (bindS m k) Dn σ H) :
    can g W R m σ H fun b H1 => ∃ a rh mu1 th1, R th1 (Gz th1 mu1 H1) a b ∧ Rl g rh mu1 th1 σ H1 ∧ canSAt g W (k a) rh mu1 th1 Dn H1 := by
  obtain ⟨rh, mu, th, r, h⟩ := h
  exact ⟨rh, mu, th, r, (canSAt_bind r h).imp fun b H' ⟨a, mu1, th1, _, q⟩ => ⟨a, rh, mu1, th1, q⟩⟩
end
theorem Rl.set {g : Gam} {rh : Rho} {mu : Mu} {th : Th} {σ : L2.St} {H : Hp} (r : Rl g rh mu th σ H) (i : Nat) {d : D} {v : V} (h : Rp g th (Gz th mu H) d v) : Rl g (rh.set i (some d)) mu th (σ.set i (some v)) H :=
  ⟨r.ok, by simp [r.len], fun j d' e => by
    by_cases hj : j = i
    · subst hj
      have hl : j < rh.length := by
        have := (List.getElem?_eq_some_iff.mp e).1
        simpa using this
      rw [List.getElem?_set_self hl] at e
      have : d = d' := Option.some.inj (Option.some.inj e)
      subst this
      exact ⟨v, by rw [List.getElem?_set_self (by rw [← r.len]; exact hl)], h⟩
    · rw [List.getElem?_set_ne (Ne.symm hj)] at e ⊢
      exact r.slt j d' e⟩

/-! ### targets -/
abbrev Tg := D → Rho → Option Rho
abbrev Tgs := List D → Rho → Option Rho
def tNm (i : Nat) : Tg := fun d rh => some (rh.set i (some d))
def tsNil : Tgs := fun ds rh => match ds with | [] => some rh | _ => none
def tsCons (t : Tg) (u : Tgs) : Tgs := fun ds rh => match ds with | d :: ds => (t d rh).bind (u ds) | [] => none
def tTp (n : Nat) (u : Tgs) : Tg := fun d rh => match d with | .tup ds => if ds.length = n then u ds rh else none | _ => none
def canG (g : Gam) (t : Tg) : TG := fun v σ H Q => ∃ rh mu th d rh', Rl g rh mu th σ H ∧ Rp g th (Gz th mu H) d v ∧ t d rh = some rh' ∧ ∀ σ', Rl g rh' mu th σ' H → Q σ' H
def canGs (g : Gam) (t : Tgs) : TGs := fun vs σ H Q => ∃ rh mu th ds rh', Rl g rh mu th σ H ∧ RpL g th (Gz th mu H) ds vs ∧ t ds rh = some rh' ∧ ∀ σ', Rl g rh' mu th σ' H → Q σ' H
section
variable {X : Cx} {g : Gam} {W : WX} {pos : Pos}
theorem pmg_name {i : Nat} {x : Str} (hN : X.N.Nodup) (hi : X.N[i]? = some x) (hx : Loc X.env.scope x) (hf : X.fn x = true ∨ X.env.scope.names.lookup x = some .local := by first | exact .inl rfl | exact .inr rfl | assumption) : PG X (.Name x pos) (canG g (tNm i)) := by
  refine ⟨fun pins s σ H v u Q I r h => (pg_name hN hi hx hf).run pins s σ H v u Q I r ?_⟩
  obtain ⟨rh, mu, th, d, rh', rl, hd, e, k⟩ := h
  have e' : rh.set i (some d) = rh' := Option.some.inj e
  subst e'
  exact k _ (rl.set i hd)
theorem pmgs_nil : PGs X [] (canGs g tsNil) := by
  refine ⟨fun pins s σ H vs us Q I r h => pgs_nil.run pins s σ H vs us Q I r ?_⟩
  obtain ⟨rh, mu, th, ds, rh', rl, hd, e, k⟩ := h
  cases ds with
  | nil =>
    have e' : rh = rh' := Option.some.inj e
    subst e'
    exact ⟨hd, k _ rl⟩
  | cons d ds => cases e
theorem pmgs_cons {e : Expr} {es : List Expr} {t : Tg} {u : Tgs} (h1 : PG X e (canG g t)) (h2 : PGs X es (canGs g u)) (hs : (assignEach (e :: es) X.env).map (·.2) = assign e X.env :: (assignEach es X.env).map (·.2) := by rfl) : PGs X (e :: es) (canGs g (tsCons t u)) := by
  refine ⟨fun pins s σ H vs us Q I r h => (pgs_cons h1 h2 hs).run pins s σ H vs us Q I r ?_⟩
  obtain ⟨rh, mu, th, ds, rh', rl, hd, e, k⟩ := h
  cases ds with
  | nil => cases e
  | cons d ds =>
    obtain ⟨v, vr, e1, hd1, hd2⟩ := hd
    have e : (t d rh).bind (u ds) = some rh' := e
    cases ht : t d rh with
    | none => rw [ht] at e; cases e
    | some rh1 =>
      rw [ht] at e
      exact ⟨v, vr, e1, rh, mu, th, d, rh1, rl, hd1, ht, fun σ1 rl1 => ⟨rh1, mu, th, ds, rh', rl1, hd2, e, k⟩⟩
theorem sqT_of {th : Th} {mu : Mu} {H : Hp} {ds : List D} {v : V} (h : Rp g th (Gz th mu H) (.tup ds) v) : ∃ a xs, v = .ref a ∧ SqT g.K H a xs ∧ RpL g th (Gz th mu H) ds xs ∧ (ds.length ≠ 1 ∨ xs ≠ [.str "wait"] → H a = some (.tup xs)) := by
  obtain ⟨a, xs, e1, e2, e3⟩ := h
  refine ⟨a, xs, e1, ?_, e3, fun q => ?_⟩
  · rcases e2 with e2 | e2
    · exact .inl (.inl (Gz_sub _ _ e2))
    · exact ex_t Gz_sub e2.2.2
  · rcases e2 with e2 | e2
    · exact Gz_sub _ _ e2
    · rcases q with q | q
      · exact absurd e2.1 q
      · exact absurd e2.2.1 q
theorem pmg_tup {es : List Expr} {k : Nat} {u : Tgs} {n : Nat} (hK : X.K = g.K) (hc : X.calm = true) (h : PGs X es (canGs g u))
    (hn : (assignEach es X.env).length = n := by rfl) (hst : (assignEach es X.env).findIdx? (·.1) = none := by rfl) : PG X (.Tuple es k pos) (canG g (tTp n u)) := by
  refine ⟨fun pins s σ H v w Q I r hw => (pg_tup hc h hn hst).run pins s σ H v w Q I r ?_⟩
  obtain ⟨rh, mu, th, d, rh', rl, hd, e, k⟩ := hw
  unfold tTp at e
  split at e
  · rename_i ds
    split at e
    · rename_i hl
      obtain ⟨a, xs, e1, e2, e3, _⟩ := sqT_of hd
      exact ⟨a, xs, e1, by rw [hK]; exact e2, by rw [e3.length]; exact hl, rh, mu, th, ds, rh', rl, e3, e, k⟩
    · cases e
  · cases e
end

/-! ### statements -/
def sSkip : MS := fun rh mu => some (.nx rh, mu)
def sSeq (a b : MS) : MS := fun rh mu => match a rh mu with
  | some (.nx r, mu1) => b r mu1
  | o => o
def sAsg (ma : ME) (t : Tg) : MS := bindS ma fun d rh mu => (t d rh).map fun r => (.nx r, mu)
def sDrop (ma : ME) : MS := bindS ma fun _ => sSkip
def sRet (ma : ME) : MS := bindS ma fun d _ mu => some (.rt d, mu)
def sRetN : MS := fun _ mu => some (.rt .non, mu)
def sIf (t : M Bool) (a b : MS) : MS := bindS t fun c => if c = true then a else b
section
variable {X : Cx} {g : Gam} {W : WX} {pos : Pos} {st : Stmt} {rest : List Stmt} {e : Expr} {ma : ME} {mt : M Bool} {sa sb : MS} {σ : L2.St} {H : Hp} {Dn : Ends}
theorem canSAt_skip {rh : Rho} {mu : Mu} {th : Th} (r : Rl g rh mu th σ H) (h : canSAt g W sSkip rh mu th Dn H) : Dn.nx σ H := by
  obtain ⟨o, mu', e, q⟩ := h
  have e' : (Out.nx rh, mu) = (o, mu') := Option.some.inj e
  cases e'
  exact q th σ H (Fw.refl r.ok) r
theorem can_seq (h : canS g W (sSeq sa sb) Dn σ H) : canS g W sa { Dn with nx := canS g W sb Dn } σ H := by
  obtain ⟨rh, mu, th, r, o, mu', e, q⟩ := h
  refine ⟨rh, mu, th, r, ?_⟩
  unfold sSeq at e
  split at e
  · rename_i r1 mu1 he
    exact ⟨.nx r1, mu1, he, fun th1 σ1 H1 f1 rl1 => ⟨r1, mu1, th1, rl1, o, mu', e, by
      cases o with
      | nx r => exact fun th' σ' H' f' => q th' σ' H' (f1.trans f')
      | bk r => exact fun th' σ' H' f' => q th' σ' H' (f1.trans f')
      | ct r => exact fun th' σ' H' f' => q th' σ' H' (f1.trans f')
      | rt d => exact fun th' v H' f' => q th' v H' (f1.trans f')
      | er x r => exact fun th' cls dd σ' H' f' => q th' cls dd σ' H' (f1.trans f')⟩⟩
  · rename_i hne
    refine ⟨o, mu', e, ?_⟩
    cases o with
    | nx r => exact absurd e (hne r mu')
    | bk r => exact q
    | ct r => exact q
    | rt d => exact q
    | er x r => exact q
theorem pms_nil : PSs X [] (canS g W sSkip) := PSsimp pss_nil fun Dn σ H ⟨rh, mu, th, r, h⟩ => canSAt_skip r h
theorem pms_cons (h1 : PS X st (canS g W sa)) (h2 : PSs X rest (canS g W sb)) : PSs X (st :: rest) (canS g W (sSeq sa sb)) := PSsimp (pss_cons h1 h2) fun Dn σ H h => can_seq h
theorem pms_one (h1 : PS X st (canS g W sa)) : PSs X [st] (canS g W sa) := pss_one h1
theorem pm_pass : PS X (.Pass pos) (canS g W sSkip) := PSimp ps_pass fun Dn σ H ⟨rh, mu, th, r, h⟩ => canSAt_skip r h
theorem pm_set {i : Nat} {x : Str} {pos' : Pos} (hN : X.N.Nodup) (hi : X.N[i]? = some x) (hx : Loc X.env.scope x) (he : PE X e (canE g W ma)) (hs : swapsWith e (some (.Name x pos')) pos.line X.env = pure false := by rfl)
    (hf : X.fn x = true ∨ X.env.scope.names.lookup x = some .local := by first | exact .inl rfl | exact .inr rfl | assumption) : PS X (.Assign [.Name x pos'] e pos) (canS g W (sAsg ma (tNm i))) :=
  PSimp (ps_set hN hi hx he hs hf) fun Dn σ H h => (canS_bind (R := RE g) h).imp fun v H1 ⟨d, rh, mu1, th1, hd, r1, o, mu', e1, q⟩ => by
    have e' : (Out.nx (rh.set i (some d)), mu1) = (o, mu') := Option.some.inj e1
    cases e'
    exact q th1 _ H1 (Fw.refl r1.ok) (r1.set i hd)
theorem pm_asg {tg : Expr} {t : Tg} (he : PE X e (canE g W ma)) (hg : PG X tg (canG g t)) (hs : swapsWithSole [tg] e pos.line X.env = pure false := by rfl) (hw : swappedStores [tg] e X.env = pure none := by rfl)
    (h1 : (assignEach [tg] X.env).map (·.2) = [assign tg X.env] := by rfl) : PS X (.Assign [tg] e pos) (canS g W (sAsg ma t)) :=
  PSimp (ps_asg he hg hs hw h1) fun Dn σ H h => (canS_bind (R := RE g) h).imp fun v H1 ⟨d, rh, mu1, th1, hd, r1, o, mu', e1, q⟩ => by
    have e1 : (t d rh).map (fun r => (Out.nx r, mu1)) = some (o, mu') := e1
    cases ht : t d rh with
    | none => rw [ht] at e1; cases e1
    | some r' =>
      rw [ht] at e1
      have e' : (Out.nx r', mu1) = (o, mu') := Option.some.inj e1
      cases e'
      exact ⟨rh, _, th1, d, r', r1, hd, ht, fun σ' rl => q th1 σ' H1 (Fw.refl r1.ok) rl⟩
theorem pm_expr (he : PE X e (canE g W ma)) (hs : swapsWith e none pos.line X.env = pure false := by rfl) : PS X (.Expr e pos) (canS g W (sDrop ma)) :=
  PSimp (ps_expr he hs) fun Dn σ H h => (canS_bind (R := RE g) h).imp fun v H1 ⟨d, rh, mu1, th1, hd, r1, h1⟩ => canSAt_skip r1 h1
theorem pm_ret (he : PE X e (canE g W ma)) : PS X (.Return (some e) pos) (canS g W (sRet ma)) :=
  PSimp (ps_ret he) fun Dn σ H h => (canS_bind (R := RE g) h).imp fun v H1 ⟨d, rh, mu1, th1, hd, r1, o, mu', e1, q⟩ => by
    have e' : (Out.rt d, mu1) = (o, mu') := Option.some.inj e1
    cases e'
    exact q th1 v H1 (Fw.refl r1.ok) hd
theorem pm_retN : PS X (.Return none pos) (canS g W sRetN) := PSimp ps_retN fun Dn σ H ⟨rh, mu, th, r, o, mu', e1, q⟩ => by
  have e' : (Out.rt .non, mu) = (o, mu') := Option.some.inj e1
  cases e'
  exact q th .non H (Fw.refl r.ok) rfl
theorem pms_if {c : Expr} {a b : List Stmt} (hc : PT X c (canT g W mt)) (ha : PSs X a (canS g W sa)) (hb : PSs X b (canS g W sb)) : PS X (.If c a b pos) (canS g W (sIf mt sa sb)) :=
  PSimp (ps_if hc ha hb) fun Dn σ H h => (canS_bind (R := RT) h).imp fun k H1 ⟨d, rh, mu1, th1, hd, r1, h1⟩ => by
    subst hd
    cases d with
    | true => exact ⟨rh, mu1, th1, r1, h1⟩
    | false => exact ⟨rh, mu1, th1, r1, h1⟩
end

/-! ### loops -/
theorem Rp.monoI {g : Gam} {th th' : Th} {G G' : Hp} {d : D} {v : V} (p : ∃ r, th'.ids = th.ids ++ r) (e : Ex G G') (h : Rp g th G d v) : Rp g th' G' d v :=
  Rp.mono (th := ⟨th.ids, th'.hid⟩) (th' := th') ⟨p, rfl⟩ e d v (Rp.ids (th := th) (th' := ⟨th.ids, th'.hid⟩) rfl d v h)
def WalksD (g : Gam) (th : Th) (G : Hp) (J : It) (ds : List D) : Prop := ∀ th' mu' H', (∃ r, th'.ids = th.ids ++ r) → Ok g th' mu' H' → Ex G (Gz th' mu' H') → ∀ i : Nat,
  (∀ d, ds[i]? = some d → J.go i H' ∧ ∀ x H'', J.yld i H' x H'' → Ex H' H'' ∧ Rp g th' (Gz th' mu' H'') d x) ∧ (i = ds.length → J.stop i H')
abbrev RI (g : Gam) : Th → Hp → List D → It → Prop := fun th G ds J => WalksD g th G J ds
abbrev canI (g : Gam) (W : WX) (m : M (List D)) : TI := can g W (RI g) m
def loopS (t : Tg) (b : MS) : List D → MS
  | [] => sSkip
  | d :: ds => fun rh mu => match t d rh with
    | none => none
    | some rh1 => match b rh1 mu with
      | some (.nx r, mu1) => loopS t b ds r mu1
      | some (.ct r, mu1) => loopS t b ds r mu1
      | some (.bk r, mu1) => some (.nx r, mu1)
      | o => o
def sFor (it : M (List D)) (t : Tg) (b : MS) : MS := bindS it fun ds => loopS t b ds
section
variable {X : Cx} {g : Gam} {W : WX} {pos : Pos} {tg iter : Expr} {body : List Stmt} {it : M (List D)} {t : Tg} {b : MS}
theorem PIimp {wi wi' : TI} (h : PI X tg iter wi) (q : ∀ σ H R, wi' σ H R → wi σ H R) : PI X tg iter wi' := ⟨fun pins s σ H R I hw => h.run pins s σ H R I (q _ _ _ hw)⟩
theorem can_loop {J : It} {ds : List D} {rh0 : Rho} {mu0 : Mu} {th0 : Th} {σ0 : L2.St} {H0 : Hp} {Dn : Ends} (hJ : WalksD g th0 (Gz th0 mu0 H0) J ds) (r0 : Rl g rh0 mu0 th0 σ0 H0) (h : canSAt g W (loopS t b ds) rh0 mu0 th0 Dn H0) :
    ∃ Wv : Nat → Nat → L2.St → Hp → Prop, (∃ m, Wv 0 m σ0 H0) ∧ ∀ i m σ H, Wv i m σ H →
      (J.stop i H ∧ Dn.nx σ H) ∨ (J.go i H ∧ ∃ N : L2.St → Hp → Prop, (∀ σ' H', N σ' H' → ∃ m', m' < m ∧ Wv (i + 1) m' σ' H') ∧ ∀ x H', J.yld i H x H' → canG g t x σ H' fun σ2 H2 => canS g W b { Dn with nx := N, ct := N, bk := Dn.nx } σ2 H2) := by
  refine ⟨fun i m σ H => m = ds.length - i ∧ i ≤ ds.length ∧ ∃ rh mu th, Fw g th0 mu0 H0 th mu H ∧ Rl g rh mu th σ H ∧ canSAt g W (loopS t b (ds.drop i)) rh mu th Dn H, ⟨ds.length, by simp, Nat.zero_le _, rh0, mu0, th0, Fw.refl r0.ok, r0, by simpa using h⟩, ?_⟩
  rintro i m σ H ⟨rfl, hi, rh, mu, th, f, r, h⟩
  have wk := hJ th mu H f.pf.ids r.ok f.ex i
  by_cases hlt : i < ds.length
  · have ed : ds.drop i = ds[i] :: ds.drop (i + 1) := List.drop_eq_getElem_cons hlt
    obtain ⟨go, yl⟩ := wk.1 ds[i] (List.getElem?_eq_getElem hlt)
    rw [ed] at h
    obtain ⟨o, mu', e, q⟩ := h
    refine .inr ⟨go, fun σ' H' => ∃ rh' mu1 th1, Fw g th0 mu0 H0 th1 mu1 H' ∧ Rl g rh' mu1 th1 σ' H' ∧ canSAt g W (loopS t b (ds.drop (i + 1))) rh' mu1 th1 Dn H', ?_, ?_⟩
    · rintro σ' H' n
      exact ⟨ds.length - (i + 1), by omega, rfl, hlt, n⟩
    · intro x H' y
      obtain ⟨ex, hx⟩ := yl x H' y
      have fh : Fw g th mu H th mu H' := Fw.heap r.ok ex
      have e : (match t ds[i] rh with
        | none => none
        | some rh1 => match b rh1 mu with
          | some (.nx r, mu1) => loopS t b (ds.drop (i + 1)) r mu1
          | some (.ct r, mu1) => loopS t b (ds.drop (i + 1)) r mu1
          | some (.bk r, mu1) => some (.nx r, mu1)
          | o => o) = some (o, mu') := e
      cases ht : t ds[i] rh with
      | none => rw [ht] at e; cases e
      | some rh1 =>
        rw [ht] at e
        refine ⟨rh, mu, th, ds[i], rh1, r.fw fh, hx, ht, fun σ1 r1 => ⟨rh1, mu, th, r1, ?_⟩⟩
        dsimp only at e
        cases hb : b rh1 mu with
        | none => rw [hb] at e; cases e
        | some p =>
          obtain ⟨ob, mub⟩ := p
          rw [hb] at e
          refine ⟨ob, mub, hb, ?_⟩
          have next : ∀ r', loopS t b (ds.drop (i + 1)) r' mub = some (o, mu') → ∀ (th' : Th) (σ' : L2.St) (Hn : Hp), Fw g th mu H' th' mub Hn → Rl g r' mub th' σ' Hn →
              ∃ rh' mu1 th1, Fw g th0 mu0 H0 th1 mu1 Hn ∧ Rl g rh' mu1 th1 σ' Hn ∧ canSAt g W (loopS t b (ds.drop (i + 1))) rh' mu1 th1 Dn Hn := fun r' e2 th' σ' Hn f' rl' => ⟨r', mub, th', f.trans (fh.trans f'), rl', o, mu', e2, by
            have ff := fh.trans f'
            cases o with
            | nx r => exact fun th2 σ2 H2 f2 => q th2 σ2 H2 (ff.trans f2)
            | bk r => exact fun th2 σ2 H2 f2 => q th2 σ2 H2 (ff.trans f2)
            | ct r => exact fun th2 σ2 H2 f2 => q th2 σ2 H2 (ff.trans f2)
            | rt d => exact fun th2 v H2 f2 => q th2 v H2 (ff.trans f2)
            | er x r => exact fun th2 cls dd σ2 H2 f2 => q th2 cls dd σ2 H2 (ff.trans f2)⟩
          cases ob with
          | nx r' => exact fun th' σ' Hn f' rl' => next r' e th' σ' Hn f' rl'
          | ct r' => exact fun th' σ' Hn f' rl' => next r' e th' σ' Hn f' rl'
          | bk r' =>
            have e' : (Out.nx r', mub) = (o, mu') := Option.some.inj e
            cases e'
            exact fun th' σ' Hn f' rl' => q th' σ' Hn (fh.trans f') rl'
          | rt d =>
            have e' : (Out.rt d, mub) = (o, mu') := Option.some.inj e
            cases e'
            exact fun th' v Hn f' => q th' v Hn (fh.trans f')
          | er x r' =>
            have e' : (Out.er x r', mub) = (o, mu') := Option.some.inj e
            cases e'
            exact fun th' cls dd σ' Hn f' => q th' cls dd σ' Hn (fh.trans f')
  · have ei : i = ds.length := by omega
    refine .inl ⟨wk.2 ei, ?_⟩
    rw [ei, List.drop_length] at h
    exact canSAt_skip r h
theorem pms_for (hp : PassesOwn (model X.prog X.w) X.A X.env X.xe) (hc : X.calm = true) (hi : PI X tg iter (canI g W it)) (hg : PG X tg (canG g t)) (hb : PSs X body (canS g W b))
    (hs : ∀ x, foldedSetIterable iter X.env x = pure x := by intro _; rfl) : PS X (.For tg iter body [] pos) (canS g W (sFor it t b)) :=
  PSimp (ps_for hp hc hi hg hb hs) fun Dn σ H h => (canS_bind (R := RI g) h).imp fun J H1 ⟨ds, rh, mu1, th1, hJ, r1, h1⟩ => can_loop hJ r1 h1
end
/-! a while of at most n turns -/
def loopW (t : M Bool) (b : MS) : Nat → MS
  | 0 => fun _ _ => none
  | n + 1 => bindS t fun c => if c = true then fun rh mu => match b rh mu with
      | some (.nx r, mu1) => loopW t b n r mu1
      | some (.ct r, mu1) => loopW t b n r mu1
      | some (.bk r, mu1) => some (.nx r, mu1)
      | o => o
    else sSkip
section
variable {X : Cx} {g : Gam} {W : WX} {pos : Pos} {c : Expr} {body : List Stmt} {t : M Bool} {b : MS}
theorem pms_while (n : Nat) (hp : PassesOwn (model X.prog X.w) X.A X.env X.xe) (hc : PT X c (canT g W t)) (hb : PSs X body (canS g W b)) : PS X (.While c body [] pos) (canS g W (loopW t b n)) :=
  PSimp (ps_while hp hc hb) fun Dn σ0 H0 ⟨rh0, mu0, th0, r0, h0⟩ => by
    refine ⟨fun m σ H => ∃ rh mu th, Rl g rh mu th σ H ∧ canSAt g W (loopW t b m) rh mu th Dn H, ⟨n, rh0, mu0, th0, r0, h0⟩, ?_⟩
    rintro m σ H ⟨rh, mu, th, r, h⟩
    cases m with
    | zero => obtain ⟨o, mu', e, _⟩ := h; cases e
    | succ m =>
      refine ⟨rh, mu, th, r, (canSAt_bind (R := RT) r h).imp fun k H1 ⟨d, mu1, th1, f1, hd, r1, h1⟩ => ?_⟩
      subst hd
      cases d with
      | false =>
        rw [if_neg Bool.false_ne_true]
        exact canSAt_skip r1 h1
      | true =>
        rw [if_pos rfl]
        refine ⟨fun σ' H' => ∃ rh mu th, Rl g rh mu th σ' H' ∧ canSAt g W (loopW t b m) rh mu th Dn H', fun σ' H' n => ⟨m, Nat.lt_succ_self m, n⟩, rh, mu1, th1, r1, ?_⟩
        obtain ⟨o, mu', e, q⟩ := h1
        have e : (match b rh mu1 with
          | some (.nx r, mu1) => loopW t b m r mu1
          | some (.ct r, mu1) => loopW t b m r mu1
          | some (.bk r, mu1) => some (.nx r, mu1)
          | o => o) = some (o, mu') := e
        cases hbb : b rh mu1 with
        | none => rw [hbb] at e; cases e
        | some p =>
          obtain ⟨ob, mub⟩ := p
          rw [hbb] at e
          refine ⟨ob, mub, hbb, ?_⟩
          have next : ∀ r', loopW t b m r' mub = some (o, mu') → ∀ (th' : Th) (σ' : L2.St) (Hn : Hp), Fw g th1 mu1 H1 th' mub Hn → Rl g r' mub th' σ' Hn → ∃ rh mu th, Rl g rh mu th σ' Hn ∧ canSAt g W (loopW t b m) rh mu th Dn Hn := fun r' e2 th' σ' Hn f' rl' => ⟨r', mub, th', rl', o, mu', e2, by
            cases o with
            | nx r => exact fun th2 σ2 H2 f2 => q th2 σ2 H2 (f'.trans f2)
            | bk r => exact fun th2 σ2 H2 f2 => q th2 σ2 H2 (f'.trans f2)
            | ct r => exact fun th2 σ2 H2 f2 => q th2 σ2 H2 (f'.trans f2)
            | rt d => exact fun th2 v H2 f2 => q th2 v H2 (f'.trans f2)
            | er x r => exact fun th2 cls dd σ2 H2 f2 => q th2 cls dd σ2 H2 (f'.trans f2)⟩
          cases ob with
          | nx r' => exact fun th' σ' Hn f' rl' => next r' e th' σ' Hn f' rl'
          | ct r' => exact fun th' σ' Hn f' rl' => next r' e th' σ' Hn f' rl'
          | bk r' =>
            have e' : (Out.nx r', mub) = (o, mu') := Option.some.inj e
            cases e'
            exact fun th' σ' Hn f' rl' => q th' σ' Hn f' rl'
          | rt d =>
            have e' : (Out.rt d, mub) = (o, mu') := Option.some.inj e
            cases e'
            exact fun th' v Hn f' => q th' v Hn f'
          | er x r' =>
            have e' : (Out.er x r', mub) = (o, mu') := Option.some.inj e
            cases e'
            exact fun th' cls dd σ' Hn f' => q th' cls dd σ' Hn f'
end
end Eb

/-! Eb: defs and their calls, objects, what a loop walks, comprehensions. -/
namespace Eb
open PySem L2
open Evl (Ex ex_l ex_t)
/-- a def's promise: its function of the data -/
def spM (g : Gam) (f : Phi) : Sp := fun vs H Q E => ∃ ds mu th r mu', Ok g th mu H ∧ RpL g th (Gz th mu H) ds vs ∧ f ds mu = some (r, mu') ∧ match r with
  | .ok d => ∀ th' v H', Fw g th mu H th' mu' H' → Rp g th' (Gz th' mu' H') d v → Q v H'
  | .er x => ∀ th' cls dd H', Fw g th mu H th' mu' H' → RpX g th' (Gz th' mu' H') x cls dd → E cls dd H'
/-- a body of np parameters and n names -/
def mBody (np n : Nat) (b : MS) : Phi := fun ds mu => if ds.length = np then
    match b (ds.map some ++ List.replicate (n - np) none) mu with
    | some (.nx _, mu') => some (.ok .non, mu')
    | some (.rt d, mu') => some (.ok d, mu')
    | some (.er x _, mu') => some (.er x, mu')
    | _ => none
  else none
theorem mBody_len {np n : Nat} {b : MS} {ds : List D} {mu : Mu} {p : Rs D × Mu} (h : mBody np n b ds mu = some p) : ds.length = np := by
  unfold mBody at h
  split at h
  · assumption
  · cases h
section
variable {P : Program} {w : World} {K : PySem.W.Frag} {mg : Str → Option Value} {base : Heap} {g : Gam}
theorem start_rl {ds : List D} {vs : List V} {mu : Mu} {th : Th} {H : Hp} {N : List Str} {np : Nat} (o : Ok g th mu H) (h : RpL g th (Gz th mu H) ds vs) (hl : ds.length = np) (hN : np ≤ N.length) :
    Rl g (ds.map some ++ List.replicate (N.length - np) none) mu th (L2.start N vs) H := by
  have hv := h.length
  refine ⟨o, ?_, fun i d e => ?_⟩
  · unfold L2.start
    simp [hv, hl]
  · have hi : i < ds.length := by
      by_cases hi : i < ds.length
      · exact hi
      · rw [List.getElem?_append_right (by simpa using hi)] at e
        have := List.mem_of_getElem? e
        rw [List.mem_replicate] at this
        cases this.2
    rw [List.getElem?_append_left (by simpa using hi), List.getElem?_map] at e
    cases hd : ds[i]? with
    | none => rw [hd] at e; cases e
    | some d' =>
      rw [hd] at e
      have : d' = d := Option.some.inj (Option.some.inj e)
      subst this
      obtain ⟨v, e1, e2⟩ := h.get hd
      refine ⟨v, ?_, e2⟩
      unfold L2.start
      rw [List.getElem?_append_left (by rw [List.length_map, hv]; exact hi), List.getElem?_map, e1]
      rfl
theorem body_can {W : WX} {E : XK} {b : MS} {np n : Nat} {N : List Str} {vs : List V} {H : Hp} {Q : VK} (hN : N.length = n) (hnp : np ≤ n) (hW : ∀ cls d σ H, E cls d H → W cls d σ H) (h : spM g (mBody np n b) vs H Q E) :
    canS g W b { nx := fun _ H' => Q .non H', rt := Q } (L2.start N vs) H := by
  obtain ⟨ds, mu, th, r, mu', o, hd, e, q⟩ := h
  have hl := mBody_len e
  unfold mBody at e
  rw [if_pos hl] at e
  have rl := start_rl (N := N) o hd hl (by rw [hN]; exact hnp)
  rw [hN] at rl
  refine ⟨_, mu, th, rl, ?_⟩
  split at e
  · rename_i r' mu1 he
    have e' : (Rs.ok D.non, mu1) = (r, mu') := Option.some.inj e
    cases e'
    exact ⟨_, _, he, fun th' σ' H' f _ => q th' .non H' f rfl⟩
  · rename_i d mu1 he
    have e' : (Rs.ok d, mu1) = (r, mu') := Option.some.inj e
    cases e'
    exact ⟨_, _, he, fun th' v H' f hv => q th' v H' f hv⟩
  · rename_i x r' mu1 he
    have e' : (Rs.er x, mu1) = (r, mu') := Option.some.inj e
    cases e'
    exact ⟨_, _, he, fun th' cls dd σ' H' f _ hx => hW _ _ _ _ (q th' cls dd H' f hx)⟩
  · cases e
/-- THE RULE for a def that may raise -/
theorem okM {x qual : Str} {st : Stmt} {f : Addr} {fd : FuncData} {N ps : List Str} {k np n : Nat} {b : MS} (F : Fun K x qual st f fd) (S : FnScope N ps (defScope st)) (hN : N.length = n) (hps : ps.length = np) (hnp : np ≤ n)
    (h : ∀ (cdv : Value) (A : Around) (outer : List Env) (s : Shared) (H : Hp) (E : XK), Room k (A.deeper (PyProof.Rows.envOfC qual (defScope st) s.heap.objs.size f cdv)) →
      PSs (cxOf (L2.CX P w) P w K mg base N qual (defScope st) f cdv A outer s H E) (defBody st) (canS g (fun cls d _ H => E cls d H) b)) : FnOk P w K mg base (L2.CX P w) (k + 1) f fd ps (spM g (mBody np n b)) :=
  F.okX S (fun vs H Q E ⟨ds, mu, th, r, mu', o, hd, e, _⟩ => by rw [hps, hd.length]; exact mBody_len e) fun cdv A outer s H vs Q E hr hs =>
    ⟨_, h cdv A outer s H E hr, body_can hN hnp (fun _ _ _ _ z => z) hs⟩
/-- .. for one that lets nothing out -/
theorem okM0 {x qual : Str} {st : Stmt} {f : Addr} {fd : FuncData} {N ps : List Str} {k np n : Nat} {b : MS} (F : Fun K x qual st f fd) (S : FnScope N ps (defScope st)) (hN : N.length = n) (hps : ps.length = np) (hnp : np ≤ n)
    (h : ∀ (cdv : Value) (A : Around) (outer : List Env) (s : Shared) (H : Hp) (E : XK), Room k (A.deeper (PyProof.Rows.envOfC qual (defScope st) s.heap.objs.size f cdv)) →
      PSs (cxOf CX0 P w K mg base N qual (defScope st) f cdv A outer s H E).nox (defBody st) (canS g (fun _ _ _ _ => True) b)) : FnOk P w K mg base CX0 (k + 1) f fd ps (spM g (mBody np n b)) :=
  F.ok S (fun vs H Q E ⟨ds, mu, th, r, mu', o, hd, e, _⟩ => by rw [hps, hd.length]; exact mBody_len e) fun cdv A outer s H vs Q E hr hs =>
    ⟨_, h cdv A outer s H E hr, body_can hN hnp (fun _ _ _ _ _ => trivial) hs⟩
end
/-! ### calls -/
def mCall (f : Phi) (mr : M (List D)) : ME := bindM mr fun ds _ mu => f ds mu
section
variable {X : Cx} {CX : CXT} {k : Nat} {f : Addr} {fd : FuncData} {ps : List Str} {g : Gam} {W : WX} {x m : Str} {p pos apos : Pos} {e o : Expr} {es : List Expr} {ma : ME} {mr : M (List D)} {ph : Phi}
theorem at_sp {ds : List D} {vs : List V} {rh : Rho} {mu : Mu} {th : Th} {σ : L2.St} {H : Hp} {Q : VK} {E : XK} (hE : ∀ cls d H, W cls d σ H → E cls d H) (r : Rl g rh mu th σ H) (hd : RpL g th (Gz th mu H) ds vs) (h : canAt g W (RE g) (fun _ mu => ph ds mu) rh mu th σ H Q) : spM g ph vs H Q E := by
  obtain ⟨s, mu', e, q⟩ := h
  refine ⟨ds, mu, th, s, mu', r.ok, hd, e, ?_⟩
  cases s with
  | ok d => exact q
  | er x => exact fun th' cls dd H' f hx => hE _ _ _ (q th' cls dd H' f hx)
theorem pm_call (F : FnOk X.prog X.w X.K X.mg X.base CX k f fd ps (spM g ph)) (hr : Room k X.A) (hm : X.mg x = some (.ref f)) (hk : PySem.W.keepIn X.K (.ref f) = true) (hb : Binds X.K fd ps []) (hx : ∀ σ, PassesAt CX X σ (WE W σ))
    (ha : PA X (e :: es) (canA g W mr)) (hg : Gl X x := by rfl) (hdb : (x == ("__debug__" : Str)) = false := by decide) (he : starEach (e :: es) X.env = (false, eval e X.env) :: starEach es X.env := by rfl) (hpl : (backTo pos (starEach es X.env)).any (·.1) = false := by rfl) :
    PE X (.Call (.Name x p) (e :: es) [] pos) (canE g W (mCall ph mr)) :=
  PEimp (pe_callS F hr hg hm hk hb hx ha hdb he hpl) fun σ H Q h => (can_bind (R := RA g) h).imp fun vs H1 ⟨ds, rh, mu1, th1, hd, r1, h1⟩ => at_sp (fun _ _ _ z => z) r1 hd h1
/-- o.m(..), the wish being the def's -/
def insOf (mu : Mu) : D → Option (Nat × List D)
  | .ins c ds => some (c, ds)
  | .cel k => match mu[k]? with
    | some (.ins c ds) => some (c, ds)
    | _ => none
  | _ => none
theorem ins_at {d : D} {v : V} {c : Nat} {ds : List D} {mu : Mu} {th : Th} {H : Hp} (o : Ok g th mu H) (h : Rp g th (Gz th mu H) d v) (e : insOf mu d = some (c, ds)) :
    ∃ a dx ys xs, v = .ref a ∧ H a = some (.ins (g.cls c) dx ys) ∧ ys = ((g.flds c).take ds.length).zip xs ∧ ds.length ≤ (g.flds c).length ∧ RpL g th (Gz th mu H) ds xs := by
  unfold insOf at e
  split at e
  · have e' := Option.some.inj e
    cases e'
    obtain ⟨a, dx, ys, xs, e1, e2, e3, e4, e5⟩ := h
    exact ⟨a, dx, ys, xs, e1, Gz_sub _ _ e2, e3, e4, e5⟩
  · split at e
    · rename_i c' ds' hk
      have e' := Option.some.inj e
      cases e'
      obtain ⟨a, e1, e2⟩ := h
      obtain ⟨dx, ys, xs, q1, q2, q3, q4⟩ := o.cel _ a _ e2 hk
      exact ⟨a, dx, ys, xs, e1, q1, q2, q3, q4⟩
    · cases e
  · cases e
/-- an attribute among the names, by its place -/
theorem lookup_zip : ∀ {fs : List Str} {xs : List V} {i n : Nat} {f : Str}, fs.Nodup → fs[i]? = some f → xs.length = n → i < n → n ≤ fs.length → ((fs.take n).zip xs).lookup f = xs[i]?
  | [], xs, i, n, f, _, h, _, _, _ => by simp at h
  | a :: fs, [], i, n, f, _, _, h, l, _ => by simp at h; omega
  | a :: fs, x :: xs, i, 0, f, _, _, h, _, _ => by simp at h
  | a :: fs, x :: xs, 0, n + 1, f, _, h, _, _, _ => by
    have : a = f := by simpa using h
    subst this
    simp [List.lookup]
  | a :: fs, x :: xs, i + 1, n + 1, f, nd, h, hl, hi, hn => by
    have hf : fs[i]? = some f := by simpa using h
    have ne : f ≠ a := by
      rintro rfl
      exact (List.nodup_cons.mp nd).1 (List.mem_of_getElem? hf)
    have nb : (f == a) = false := by simpa using ne
    show (((a :: fs.take n).zip (x :: xs))).lookup f = (x :: xs)[i + 1]?
    rw [List.zip_cons_cons, List.lookup_cons, nb]
    simpa using lookup_zip (List.nodup_cons.mp nd).2 hf (by simpa using hl) (by omega) (by simpa using hn)
theorem lookup_zip_none {fs : List Str} {xs : List V} {n : Nat} {f : Str} (h : f ∉ fs) : ((fs.take n).zip xs).lookup f = none := by
  induction fs generalizing xs n with
  | nil => simp
  | cons a fs ih =>
    cases n with
    | zero => simp
    | succ n =>
      cases xs with
      | nil => simp
      | cons x xs =>
        have ne : (f == a) = false := by
          have : f ≠ a := fun z => h (by simp [z])
          simpa using this
        show (((a :: fs.take n).zip (x :: xs))).lookup f = none
        rw [List.zip_cons_cons, List.lookup_cons, ne]
        exact ih fun z => h (List.mem_cons_of_mem _ z)
/-- a class's attributes as the walk asks for them -/
structure ClsOk (g : Gam) (c : Nat) : Prop where
  cl : Cls g.K (g.cls c)
  nd : (g.flds c).Nodup
  na : ∀ f ∈ g.flds c, NoAttr g.K (g.cls c) f
  few : (g.flds c).length < 1000
def mFld (c i : Nat) (ma : ME) : ME := bindM ma fun d => lift fun mu => (insOf mu d).bind fun p => if p.1 = c then p.2[i]? else none
theorem pm_fld (c i : Nat) {f : Str} (hK : X.K = g.K) (T : ClsOk g c) (hf : (g.flds c)[i]? = some f) (he : PE X e (canE g W ma)) (hb : attributeBase e f X.env (eval e X.env) = eval e X.env := by rfl) : PE X (.Attribute e f pos) (canE g W (mFld c i ma)) :=
  PEimp (pe_fld he hb) fun σ H Q h => (can_bind (R := RE g) h).imp fun v H1 ⟨d, rh, mu1, th1, hd, r1, h1⟩ => by
    obtain ⟨x, e1, q⟩ := canAt_lift r1 h1
    cases hi : insOf mu1 d with
    | none => rw [hi] at e1; cases e1
    | some p =>
      obtain ⟨c', ds⟩ := p
      rw [hi] at e1
      have e9 : (if c' = c then ds[i]? else none) = some x := e1
      clear e1
      split at e9
      · rename_i ec
        subst ec
        obtain ⟨a, dx, ys, xs, q1, q2, q3, q4, q5⟩ := ins_at r1.ok hd hi
        obtain ⟨y, e2, e3⟩ := q5.get e9
        have hlt : i < ds.length := (List.getElem?_eq_some_iff.mp e9).1
        refine ⟨a, g.cls c', dx, ys, y, q1, q2, by rw [hK]; exact T.cl, by rw [hK]; exact T.na f (List.mem_of_getElem? hf), ?_, q th1 y H1 (Fw.refl r1.ok) e3⟩
        rw [q3, lookup_zip T.nd hf q5.length hlt q4]
        exact e2
      · cases e9
def mMeth (c : Nat) (f : Phi) (ma : ME) (mr : M (List D)) : ME := bindM ma fun o => bindM (lift fun mu => (insOf mu o).bind fun p => if p.1 = c then some () else none) fun _ => bindM mr fun ds _ mu => f (o :: ds) mu
theorem can_meth (c : Nat) {E : XK} (T : ClsOk g c) (hm : m ∉ g.flds c) (hE : ∀ cls d σ H, W cls d σ H → E cls d H) {σ : L2.St} {H : Hp} {Q : VK} (h : canE g W (mMeth c ph ma mr) σ H Q) : tMeth (g.cls c) m (spM g ph) [] E (canE g W ma) (canA g W mr) σ H Q :=
  (can_bind (R := RE g) h).imp fun v H1 ⟨d, rh, mu1, th1, hd, r1, h1⟩ => by
    obtain ⟨s, mu2, e2, q2⟩ := canAt_bind (R := fun _ _ (a : Unit) (b : Unit) => a = b) r1 h1
    have e2 : ((insOf mu1 d).bind fun p => if p.1 = c then some () else none).map (fun a => (Rs.ok a, mu1)) = some (s, mu2) := e2
    cases hi : insOf mu1 d with
    | none => rw [hi] at e2; cases e2
    | some p =>
      obtain ⟨c', ds⟩ := p
      rw [hi] at e2
      have e9 : (if c' = c then some () else none).map (fun a => (Rs.ok a, mu1)) = some (s, mu2) := e2
      clear e2
      split at e9
      · rename_i ec
        subst ec
        have e' : (Rs.ok (), mu1) = (s, mu2) := Option.some.inj e9
        cases e'
        obtain ⟨a, dx, ys, xs, q1, q2', q3, q4, q5⟩ := ins_at r1.ok hd hi
        refine ⟨a, dx, ys, q1, q2', by rw [q3]; exact lookup_zip_none hm, ?_⟩
        obtain ⟨_, mu3, th3, f3, _, r3, h3⟩ := q2 th1 () H1 (Fw.refl r1.ok) rfl
        refine ⟨rh, mu3, th3, r3, (canAt_bind (R := RA g) r3 h3).imp fun vs H4 ⟨es, mu4, th4, f4, hs, r4, h4⟩ => ?_⟩
        rw [List.append_nil]
        exact at_sp (ds := d :: es) (fun cls dd H => hE cls dd σ H) r4 ⟨v, vs, rfl, hd.mono (f3.trans f4).pf (f3.trans f4).ex, hs⟩ h4
      · cases e9
theorem pm_meth (c : Nat) {E : XK} {pl : Sem Bool} (hK : X.K = g.K) (T : ClsOk g c) (hn : m ∉ g.flds c) (hE : ∀ cls d σ H, W cls d σ H → E cls d H) (he : PE X o (canE g W ma)) (hm : Meth g.K (g.cls c) m f) (F : FnOk X.prog X.w X.K X.mg X.base CX k f fd ps (spM g ph)) (hr : Room k X.A)
    (hb : Binds X.K fd ps []) (hx : Passes CX X E) (ha : PA X (e :: es) (canA g W mr))
    (hst : starEach (e :: es) X.env = (false, eval e X.env) :: starEach es X.env := by rfl) (hpl : (backTo pos (starEach es X.env)).any (·.1) = false := by rfl)
    (ht : eval (.Call (.Attribute o m apos) (e :: es) [] pos) X.env = (do
      let ov ← eval o X.env
      standAt apos.atName
      let (f, first) ← holding [ov] (getMethod ov m pl)
      callWith pos f first (backTo pos (starEach (e :: es) X.env)) (backToKw pos (keywordEach [] X.env))) := by rfl) : PE X (.Call (.Attribute o m apos) (e :: es) [] pos) (canE g W (mMeth c ph ma mr)) :=
  PEimp (pe_meth he (by rw [hK]; exact T.cl) (by rw [hK]; exact hm) F hr hb .nil hx ha hst hpl ht) fun σ H Q h => can_meth c T hn hE h
theorem pm_meth0 (c : Nat) {E : XK} {pl : Sem Bool} (hK : X.K = g.K) (T : ClsOk g c) (hn : m ∉ g.flds c) (hE : ∀ cls d σ H, W cls d σ H → E cls d H) (he : PE X o (canE g W ma)) (hm : Meth g.K (g.cls c) m f) (F : FnOk X.prog X.w X.K X.mg X.base CX k f fd ps (spM g ph)) (hr : Room k X.A)
    (hb : Binds X.K fd ps []) (hx : Passes CX X E)
    (ht : eval (.Call (.Attribute o m apos) [] [] pos) X.env = (do
      let ov ← eval o X.env
      standAt apos.atName
      let (f, first) ← holding [ov] (getMethod ov m pl)
      callWith pos f first (backTo pos (starEach [] X.env)) (backToKw pos (keywordEach [] X.env))) := by rfl) : PE X (.Call (.Attribute o m apos) [] [] pos) (canE g W (mMeth c ph ma mNil)) :=
  PEimp (pe_meth0 he (by rw [hK]; exact T.cl) (by rw [hK]; exact hm) F hr hb .nil hx ht) fun σ H Q h => by
    have q := can_meth (mr := mNil) c T hn hE h
    refine can.imp q fun v H1 ⟨a, dx, ys, q1, q2, q3, q4⟩ => ⟨a, dx, ys, q1, q2, q3, ?_⟩
    obtain ⟨rh, mu, th, r, h4⟩ := q4
    exact canAt_ret (R := RA g) r h4 th [] H1 (Fw.refl r.ok) rfl
/-- C(..): a new object -/
def mMake (c : Nat) (f : Phi) (mr : M (List D)) : ME := bindM mr fun ds _ mu => match f (.cel mu.length :: ds) (mu ++ [.ins c []]) with
  | some (.ok .non, mu') => some (.ok (.cel mu.length), mu')
  | some (.er x, mu') => some (.er x, mu')
  | _ => none
theorem pm_make (c : Nat) {E : XK} (hE : ∀ cls d σ H, W cls d σ H → E cls d H) (Mk : L2.Mk X.K (g.cls c) f) (F : FnOk X.prog X.w X.K X.mg X.base CX k f fd ps (spM g ph)) (hr : Room (k + 1) X.A) (hm : X.mg x = some (.ref (g.cls c))) (hb : Binds X.K fd ps []) (hx : Passes CX X E)
    (ha : PA X (e :: es) (canA g W mr)) (hg : Gl X x := by rfl) (hdb : (x == ("__debug__" : Str)) = false := by decide) (he : starEach (e :: es) X.env = (false, eval e X.env) :: starEach es X.env := by rfl) (hpl : (backTo pos (starEach es X.env)).any (·.1) = false := by rfl) :
    PE X (.Call (.Name x p) (e :: es) [] pos) (canE g W (mMake c ph mr)) :=
  PEimp (pe_make Mk F hr hg hm hb .nil hx ha hdb he hpl) fun σ H Q h => (can_bind (R := RA g) h).imp fun vs H1 ⟨ds, rh, mu1, th1, hd, r1, h1⟩ => by
    intro a dx na ndx ne
    obtain ⟨s, mu', e1, q⟩ := h1
    have ex1 : Ex H1 (upd H1 dx (.own a)) := Evl.Ex.new ndx
    have o1 := r1.ok.ex ex1
    have na1 : (upd H1 dx (.own a)) a = none := by rw [upd_ne (Ne.symm ne)]; exact na
    obtain ⟨o2, eg⟩ := o1.push (u := .ins (g.cls c) dx []) (c := .ins c []) na1 rfl fun th' G' _ _ => ⟨dx, [], [], upd_same, by simp, by simp, rfl⟩
    have f2 : Fw g th1 mu1 H1 (th1.add a) (mu1 ++ [.ins c []]) (upd (upd H1 dx (.own a)) a (.ins (g.cls c) dx [])) := ⟨Pfx.add, o2, by rw [eg]; exact Gz_ex ex1, fun b m => by
      obtain ⟨_, u, hu, _⟩ := r1.ok.hid b m
      rw [upd_ne (ne_of_none hu na), hu]
      exact ex1 b u hu⟩
    have e1 : (match ph (.cel mu1.length :: ds) (mu1 ++ [.ins c []]) with
      | some (.ok .non, mu') => some (.ok (.cel mu1.length), mu')
      | some (.er x, mu') => some (.er x, mu')
      | _ => none) = some (s, mu') := e1
    have hd2 : RpL g (th1.add a) (Gz (th1.add a) (mu1 ++ [.ins c []]) (upd (upd H1 dx (.own a)) a (.ins (g.cls c) dx []))) (.cel mu1.length :: ds) (.ref a :: vs) :=
      ⟨.ref a, vs, rfl, ⟨a, rfl, by show (th1.ids ++ [a])[mu1.length]? = some a; rw [← r1.ok.len]; simp⟩, RpL.mono f2.pf f2.ex _ _ hd⟩
    rw [List.append_nil]
    split at e1
    · rename_i mu2 hp
      have e' : (Rs.ok (D.cel mu1.length), mu2) = (s, mu') := Option.some.inj e1
      cases e'
      refine ⟨_, _, _, _, _, o2, hd2, hp, fun th' v H' f hv => ⟨hv, q th' (.ref a) H' (f2.trans f) ⟨a, rfl, ?_⟩⟩⟩
      exact f.pf.get (by show (th1.ids ++ [a])[mu1.length]? = some a; rw [← r1.ok.len]; simp)
    · rename_i x' mu2 hp
      have e' : (Rs.er x', mu2) = (s, mu') := Option.some.inj e1
      cases e'
      exact ⟨_, _, _, _, _, o2, hd2, hp, fun th' cls dd H' f hx' => hE _ _ _ _ (q th' cls dd H' (f2.trans f) hx')⟩
    · cases e1
end
end Eb

/-! Eb: attributes stored, cells frozen, what a loop walks, comprehensions. -/
namespace Eb
open PySem L2
open Evl (Ex ex_l ex_t)
/-! ### attributes stored -/
theorem putF_zip : ∀ {fs : List Str} {xs : List V} {i n : Nat} {f : Str} {v : V}, fs.Nodup → fs[i]? = some f → xs.length = n → i < n → n ≤ fs.length → putF f v ((fs.take n).zip xs) = (fs.take n).zip (xs.set i v)
  | [], xs, i, n, f, v, _, h, _, _, _ => by simp at h
  | a :: fs, [], i, n, f, v, _, _, h, l, _ => by simp at h; omega
  | a :: fs, x :: xs, i, 0, f, v, _, _, h, _, _ => by simp at h
  | a :: fs, x :: xs, 0, n + 1, f, v, _, h, _, _, _ => by
    have : a = f := by simpa using h
    subst this
    show putF a v ((a, x) :: (fs.take n).zip xs) = (a, v) :: (fs.take n).zip xs
    unfold putF
    rw [if_pos rfl]
  | a :: fs, x :: xs, i + 1, n + 1, f, v, nd, h, hl, hi, hn => by
    have hf : fs[i]? = some f := by simpa using h
    have ne : ¬ a = f := by
      rintro rfl
      exact (List.nodup_cons.mp nd).1 (List.mem_of_getElem? hf)
    show putF f v ((a, x) :: (fs.take n).zip xs) = (a, x) :: (fs.take n).zip (xs.set i v)
    unfold putF
    rw [if_neg ne, putF_zip (List.nodup_cons.mp nd).2 hf (by simpa using hl) (by omega) (by simpa using hn)]
theorem putF_end : ∀ {fs : List Str} {xs : List V} {n : Nat} {f : Str} {v : V}, fs.Nodup → fs[n]? = some f → xs.length = n → putF f v ((fs.take n).zip xs) = (fs.take (n + 1)).zip (xs ++ [v])
  | [], xs, n, f, v, _, h, _ => by simp at h
  | a :: fs, [], n, f, v, _, h, hl => by
    have : n = 0 := by simpa using hl.symm
    subst this
    have : a = f := by simpa using h
    subst this
    rfl
  | a :: fs, x :: xs, 0, f, v, _, _, hl => by simp at hl
  | a :: fs, x :: xs, n + 1, f, v, nd, h, hl => by
    have hf : fs[n]? = some f := by simpa using h
    have ne : ¬ a = f := by
      rintro rfl
      exact (List.nodup_cons.mp nd).1 (List.mem_of_getElem? hf)
    show putF f v ((a, x) :: (fs.take n).zip xs) = (a, x) :: (fs.take (n + 1)).zip (xs ++ [v])
    unfold putF
    rw [if_neg ne, putF_end (List.nodup_cons.mp nd).2 hf (by simpa using hl)]
def stF (c i : Nat) (o y : D) (mu : Mu) : Option Mu := match o with
  | .cel k => match mu[k]? with
    | some (.ins c' ds) => if c' = c then (if i < ds.length then some (mu.set k (.ins c (ds.set i y))) else if i = ds.length then some (mu.set k (.ins c (ds ++ [y]))) else none) else none
    | _ => none
  | _ => none
def sFldM (c i : Nat) (mo mv : ME) : MS := bindS mv fun y => bindS mo fun o rh mu => (stF c i o y mu).map fun mu' => (.nx rh, mu')
section
variable {X : Cx} {g : Gam} {W : WX} {pos pos' : Pos} {o value e : Expr} {mo mv ma : ME} {f : Str}
theorem pm_stF (c i : Nat) (hK : X.K = g.K) (T : ClsOk g c) (hf : (g.flds c)[i]? = some f) (ho : PE X o (canE g W mo)) (hv : PE X value (canE g W mv)) (hs : swapsWith value (some (.Attribute o f pos')) pos.line X.env = pure false := by rfl) :
    PS X (.Assign [.Attribute o f pos'] value pos) (canS g W (sFldM c i mo mv)) :=
  PSimp (ps_fld ho hv hs) fun Dn σ H h => (canS_bind (R := RE g) h).imp fun y H1 ⟨dy, rh, mu1, th1, hy, r1, h1⟩ => ⟨rh, mu1, th1, r1, (canSAt_bind (R := RE g) r1 h1).imp fun x H2 ⟨d, mu2, th2, f2, hd, r2, h2⟩ => by
    obtain ⟨ot, mu', e, q⟩ := h2
    have e : (stF c i d dy mu2).map (fun mu' => (Out.nx rh, mu')) = some (ot, mu') := e
    have hy2 := hy.mono f2.pf f2.ex
    cases hst : stF c i d dy mu2 with
    | none => rw [hst] at e; cases e
    | some mu3 =>
      rw [hst] at e
      have e' : (Out.nx rh, mu3) = (ot, mu') := Option.some.inj e
      cases e'
      unfold stF at hst
      split at hst
      · rename_i k
        split at hst
        · rename_i c' ds hk
          split at hst
          · rename_i ec
            subst ec
            obtain ⟨a, ea, ha⟩ := hd
            obtain ⟨dx, ys, xs, q1, q2, q3, q4⟩ := r2.ok.cel _ a _ ha hk
            have lf : (g.flds c').length < 1000 := T.few
            have ly : ys.length = ds.length := by
              rw [q2, List.length_zip, List.length_take, q4.length]
              omega
            have hs : i < (g.flds c').length := (List.getElem?_eq_some_iff.mp hf).1
            have fin : ∀ ds' xs', RpL g th2 (Gz th2 mu2 H2) ds' xs' → ds'.length ≤ (g.flds c').length → putF f y ys = ((g.flds c').take ds'.length).zip xs' → mu' = mu2.set k (.ins c' ds') → Dn.nx σ (upd H2 a (.ins (g.cls c') dx (putF f y ys))) := fun ds' xs' hx hl hp em => by
              obtain ⟨o3, e3, hh⟩ := r2.ok.write (u := .ins (g.cls c') dx (putF f y ys)) (c' := .ins c' ds') ha hk rfl rfl ⟨dx, _, xs', upd_same, hp, hl, hx⟩
              subst em
              have f3 : Fw g th2 mu2 H2 th2 (mu2.set k (.ins c' ds')) (upd H2 a (.ins (g.cls c') dx (putF f y ys))) := ⟨Pfx.refl, o3, by rw [e3]; exact fun _ _ z => z, hh⟩
              exact q th2 σ _ f3 (r2.fw f3)
            refine ⟨a, g.cls c', dx, ys, ea, q1, by rw [hK]; exact T.cl, by rw [hK]; exact T.na f (List.mem_of_getElem? hf), by omega, ?_⟩
            split at hst
            · rename_i hi
              exact fin _ (xs.set i y) (q4.set i hy2) (by simpa using q3) (by rw [q2, putF_zip T.nd hf q4.length hi q3, List.length_set]) (Option.some.inj hst).symm
            · split at hst
              · rename_i hi
                subst hi
                exact fin (ds ++ [dy]) (xs ++ [y]) (RpL.append q4 (es := [dy]) (ws := [y]) ⟨y, [], rfl, hy2, rfl⟩) (by rw [List.length_append]; exact hs) (by rw [q2, putF_end T.nd hf q4.length, List.length_append]; rfl) (Option.some.inj hst).symm
              · cases hst
          · cases hst
        · cases hst
      · cases hst⟩
/-! ### a cell is frozen: its content becomes a value -/
def frzD (d : D) (mu : Mu) : Option (D × Mu) := match d with
  | .cel k => match mu[k]? with
    | some (.lst ds) => some (.lst ds, mu.set k .dead)
    | some (.ins c ds) => some (.ins c ds, mu.set k .dead)
    | _ => none
  | d => some (d, mu)
theorem frz_ok {d d' : D} {mu mu' : Mu} {th : Th} {H : Hp} {v : V} (o : Ok g th mu H) (h : Rp g th (Gz th mu H) d v) (e : frzD d mu = some (d', mu')) : Fw g th mu H th mu' H ∧ Rp g th (Gz th mu' H) d' v := by
  unfold frzD at e
  split at e
  · rename_i k
    obtain ⟨a, ea, ha⟩ := h
    split at e
    · rename_i ds hk
      have e' := Option.some.inj e
      cases e'
      obtain ⟨o2, e2, ga⟩ := o.freeze ha hk rfl
      obtain ⟨xs, q1, q2⟩ := o.cel _ a _ ha hk
      exact ⟨⟨Pfx.refl, o2, e2, fun _ _ => rfl⟩, a, xs, ea, ga.trans q1, RpL.mono Pfx.refl e2 _ _ q2⟩
    · rename_i c ds hk
      have e' := Option.some.inj e
      cases e'
      obtain ⟨o2, e2, ga⟩ := o.freeze ha hk rfl
      obtain ⟨dx, ys, xs, q1, q2, q3, q4⟩ := o.cel _ a _ ha hk
      exact ⟨⟨Pfx.refl, o2, e2, fun _ _ => rfl⟩, a, dx, ys, xs, ea, ga.trans q1, q2, q3, RpL.mono Pfx.refl e2 _ _ q4⟩
    · cases e
  · have e' := Option.some.inj e
    cases e'
    exact ⟨Fw.refl o, h⟩
def mFrz (ma : ME) : ME := bindM ma fun d _ mu => (frzD d mu).map fun p => (.ok p.1, p.2)
theorem pm_frz (h : PE X e (canE g W ma)) : PE X e (canE g W (mFrz ma)) :=
  PEimp h fun σ H Q h => (can_bind (R := RE g) h).imp fun v H1 ⟨d, rh, mu1, th1, hd, r1, s, mu', e1, q⟩ => by
    have e1 : (frzD d mu1).map (fun p => (Rs.ok p.1, p.2)) = some (s, mu') := e1
    cases hf : frzD d mu1 with
    | none => rw [hf] at e1; cases e1
    | some p =>
      obtain ⟨d', mu2⟩ := p
      rw [hf] at e1
      have e' : (Rs.ok d', mu2) = (s, mu') := Option.some.inj e1
      cases e'
      obtain ⟨f, hv⟩ := frz_ok r1.ok hd hf
      exact q th1 v H1 f hv
end
/-! ### what a loop walks -/
def itemsOf : D → Option (List D)
  | .lst ds => some ds
  | .tup ds => some ds
  | .scr ns => some (ns.map .int)
  | .str z => some (z.cps.toList.map fun c => .str ⟨#[c]⟩)
  | _ => none
def mItems (ma : ME) : M (List D) := bindM ma fun d => lift fun _ => itemsOf d
theorem map_int_rp {g : Gam} {th : Th} {G : Hp} : ∀ ns : List Int, RpL g th G (ns.map .int) (ns.map V.int)
  | [] => rfl
  | n :: ns => ⟨_, _, rfl, rfl, map_int_rp ns⟩
section
variable {X : Cx} {g : Gam} {W : WX} {tg iter l a b c : Expr} {ma : ME} {mr : M (List D)} {p pos : Pos}
theorem PI.or {wi wi' : TI} (h : PI X tg iter wi) (h' : PI X tg iter wi') : PI X tg iter (fun σ H R => wi σ H R ∨ wi' σ H R) := ⟨fun pins s σ H R I hw => hw.elim (h.run pins s σ H R I) (h'.run pins s σ H R I)⟩
theorem walks_l {th : Th} {G : Hp} {K : PySem.W.Frag} {a : Addr} {xs : List V} {ds : List D} (hs : SqL K G a xs) (hd : RpL g th G ds xs) : WalksD g th G (Itl K a) ds := by
  intro th' mu' H' pf o ex i
  have eh : Ex G H' := ex.trans Gz_sub
  refine ⟨fun d e => ?_, fun e => ⟨xs, ex_l eh hs, by rw [hd.length, e]; exact Nat.le_refl _⟩⟩
  obtain ⟨v, e1, e2⟩ := hd.get e
  refine ⟨⟨xs, v, ex_l eh hs, e1⟩, fun x H'' y => ?_⟩
  obtain ⟨rfl, y⟩ := y
  have e3 := y xs (ex_l eh hs)
  rw [e1] at e3
  have : v = x := Option.some.inj e3
  subst this
  exact ⟨fun _ _ z => z, e2.monoI pf ex⟩
theorem walks_t {th : Th} {G : Hp} {K : PySem.W.Frag} {a : Addr} {xs : List V} {ds : List D} (hs : SqT K G a xs) (hd : RpL g th G ds xs) : WalksD g th G (Itt K a) ds := by
  intro th' mu' H' pf o ex i
  have eh : Ex G H' := ex.trans Gz_sub
  refine ⟨fun d e => ?_, fun e => ⟨xs, ex_t eh hs, by rw [hd.length, e]; exact Nat.le_refl _⟩⟩
  obtain ⟨v, e1, e2⟩ := hd.get e
  refine ⟨⟨xs, v, ex_t eh hs, e1⟩, fun x H'' y => ?_⟩
  obtain ⟨rfl, y⟩ := y
  have e3 := y xs (ex_t eh hs)
  rw [e1] at e3
  have : v = x := Option.some.inj e3
  subst this
  exact ⟨fun _ _ z => z, e2.monoI pf ex⟩
theorem walks_s {th : Th} {G : Hp} {z : Str} : WalksD g th G (Its z) (z.cps.toList.map fun c => .str ⟨#[c]⟩) := by
  intro th' mu' H' pf o ex i
  refine ⟨fun d e => ?_, fun e => ?_⟩
  · rw [List.getElem?_map] at e
    have hi : i < z.cps.size := by
      by_cases hi : i < z.cps.size
      · exact hi
      · rw [List.getElem?_eq_none (by simpa using hi)] at e; cases e
    refine ⟨hi, fun x H'' y => ?_⟩
    obtain ⟨rfl, c, hc, rfl⟩ := y
    refine ⟨fun _ _ z => z, ?_⟩
    have e2 : z.cps.toList[i]? = some c := by simpa using hc
    rw [e2] at e
    cases (Option.some.inj e)
    rfl
  · show z.cps.size ≤ i
    rw [e]
    simp
/-- the items of a list, a tuple or a text -/
theorem pmi_items (hK : X.K = g.K) (hl : PE X l (canE g W ma)) : PI X tg l (canI g W (mItems ma)) := by
  refine PIimp (PI.or (PI.or (pi_list hl) (pi_tup hl)) (pi_str hl)) fun σ H R h => ?_
  obtain ⟨rh, mu, th, r, s, mu', e, q⟩ := h
  unfold mItems bindM at e
  cases hm : ma rh mu with
  | none => rw [hm] at e; cases e
  | some p =>
    obtain ⟨t, mu1⟩ := p
    rw [hm] at e
    cases t with
    | er x =>
      have e' : (Rs.er x, mu1) = (s, mu') := Option.some.inj e
      cases e'
      exact .inl (.inl ⟨rh, mu, th, r, _, _, hm, q⟩)
    | ok d =>
      have e : (itemsOf d).map (fun a => (Rs.ok a, mu1)) = some (s, mu') := e
      cases hi : itemsOf d with
      | none => rw [hi] at e; cases e
      | some ds =>
        rw [hi] at e
        have e' : (Rs.ok ds, mu1) = (s, mu') := Option.some.inj e
        cases e'
        cases d with
        | lst es =>
          cases (Option.some.inj hi)
          refine .inl (.inl ⟨rh, mu, th, r, _, _, hm, fun th' b H' f hb => ?_⟩)
          obtain ⟨a, xs, e1, e2, e3⟩ := hb
          exact ⟨a, e1, ⟨xs, SqL.of (Gz_sub _ _ e2)⟩, q th' _ H' f (walks_l (SqL.of e2) e3)⟩
        | scr ns =>
          cases (Option.some.inj hi)
          refine .inl (.inl ⟨rh, mu, th, r, _, _, hm, fun th' b H' f hb => ?_⟩)
          obtain ⟨a, e1, e2⟩ := hb
          rw [hK]
          exact ⟨a, e1, ⟨_, ex_l Gz_sub e2⟩, q th' _ H' f (walks_l e2 (map_int_rp ns))⟩
        | tup es =>
          cases (Option.some.inj hi)
          refine .inl (.inr ⟨rh, mu, th, r, _, _, hm, fun th' b H' f hb => ?_⟩)
          obtain ⟨a, xs, e1, e2, e3⟩ := hb
          have e4 : SqT g.K (Gz th' mu' H') a xs := e2.elim (fun z => .inl (.inl z)) fun z => z.2.2
          rw [hK]
          exact ⟨a, e1, ⟨xs, ex_t Gz_sub e4⟩, q th' _ H' f (walks_t e4 e3)⟩
        | str z =>
          cases (Option.some.inj hi)
          refine .inr ⟨rh, mu, th, r, _, _, hm, fun th' b H' f hb => ?_⟩
          exact ⟨z, hb, q th' _ H' f walks_s⟩
        | _ => cases hi
/-- the ints of a range -/
def rngD (lo : Int) (n : Nat) : List D := (List.range n).map fun (i : Nat) => D.int (lo + (i : Int))
theorem walks_r {th : Th} {G : Hp} {lo : Int} {n : Nat} : WalksD g th G (Itr lo n) (rngD lo n) := by
  intro th' mu' H' pf o ex i
  unfold rngD
  refine ⟨fun d e => ?_, fun e => by rw [e]; show n ≤ _; simp⟩
  rw [List.getElem?_map] at e
  have hi : i < n := by
    by_cases hi : i < n
    · exact hi
    · rw [List.getElem?_eq_none (by simpa using hi)] at e; cases e
  rw [List.getElem?_range hi] at e
  have e' := Option.some.inj e
  subst e'
  exact ⟨hi, fun x H'' ⟨e1, e2⟩ => ⟨by rw [e1]; exact fun _ _ z => z, e2⟩⟩
def rng1 : List D → Option (List D)
  | [.int n] => if -1000000 ≤ n ∧ n ≤ 1000000 then some (rngD 0 n.toNat) else none
  | _ => none
def rng2 : List D → Option (List D)
  | [.int a, .int b] => if -1000000 ≤ a ∧ a ≤ 1000000 ∧ -1000000 ≤ b ∧ b ≤ 1000000 then some (rngD a (b - a).toNat) else none
  | _ => none
def rng3 : List D → Option (List D)
  | [.int a, .int b, .int (-1)] => if -1000000 ≤ a ∧ a ≤ 1000000 ∧ -1000000 ≤ b ∧ b ≤ 1000000 then some ((List.range (a - b).toNat).map fun (i : Nat) => D.int (a - (i : Int))) else none
  | _ => none
def mRng1 (mr : M (List D)) : M (List D) := bindM mr fun ds => lift fun _ => rng1 ds
def mRng2 (mr : M (List D)) : M (List D) := bindM mr fun ds => lift fun _ => rng2 ds
def mRng3 (mr : M (List D)) : M (List D) := bindM mr fun ds => lift fun _ => rng3 ds
theorem rpL1 {th : Th} {G : Hp} {d : D} {vs : List V} (h : RpL g th G [d] vs) : ∃ v, vs = [v] ∧ Rp g th G d v := by
  obtain ⟨v, r, e1, e2, e3⟩ := h
  exact ⟨v, by rw [e1, show r = [] from e3], e2⟩
theorem rpL2 {th : Th} {G : Hp} {d d' : D} {vs : List V} (h : RpL g th G [d, d'] vs) : ∃ v v', vs = [v, v'] ∧ Rp g th G d v ∧ Rp g th G d' v' := by
  obtain ⟨v, r, e1, e2, e3⟩ := h
  obtain ⟨v', rfl, e4⟩ := rpL1 e3
  exact ⟨v, v', e1, e2, e4⟩
theorem rpL3 {th : Th} {G : Hp} {d d' d2 : D} {vs : List V} (h : RpL g th G [d, d', d2] vs) : ∃ v v' v2, vs = [v, v', v2] ∧ Rp g th G d v ∧ Rp g th G d' v' ∧ Rp g th G d2 v2 := by
  obtain ⟨v, r, e1, e2, e3⟩ := h
  obtain ⟨v', v2, rfl, e4, e5⟩ := rpL2 e3
  exact ⟨v, v', v2, e1, e2, e4, e5⟩
theorem pmi_rng1 (hm : X.mg "range" = none) (ha : PA X [a] (canA g W mr)) (hg : Gl X "range" := by rfl) (hs : starEach [a] X.env = [(false, eval a X.env)] := by rfl) : PI X tg (.Call (.Name "range" p) [a] [] pos) (canI g W (mRng1 mr)) :=
  PIimp (pi_range1 hg hm ha hs) fun σ H R h => (can_bind (R := RA g) h).imp fun vs H1 ⟨ds, rh, mu1, th1, hd, r1, h1⟩ => by
    obtain ⟨es, e, q⟩ := canAt_lift r1 h1
    unfold rng1 at e
    split at e
    · rename_i n
      split at e
      · rename_i hn
        have e' := Option.some.inj e
        subst e'
        obtain ⟨v, rfl, hv⟩ := rpL1 hd
        have hv : v = .int n := hv
        subst hv
        exact ⟨n, rfl, by omega, by omega, q th1 _ H1 (Fw.refl r1.ok) walks_r⟩
      · cases e
    · cases e
theorem pmi_rng2 (hm : X.mg "range" = none) (ha : PA X [a, b] (canA g W mr)) (hg : Gl X "range" := by rfl) (hs : starEach [a, b] X.env = [(false, eval a X.env), (false, eval b X.env)] := by rfl) (hs2 : starEach [b] X.env = [(false, eval b X.env)] := by rfl) :
    PI X tg (.Call (.Name "range" p) [a, b] [] pos) (canI g W (mRng2 mr)) :=
  PIimp (pi_range2 hg hm ha hs hs2) fun σ H R h => (can_bind (R := RA g) h).imp fun vs H1 ⟨ds, rh, mu1, th1, hd, r1, h1⟩ => by
    obtain ⟨es, e, q⟩ := canAt_lift r1 h1
    unfold rng2 at e
    split at e
    · rename_i i j
      split at e
      · rename_i hn
        have e' := Option.some.inj e
        subst e'
        obtain ⟨v, v', rfl, hv, hv'⟩ := rpL2 hd
        have hv : v = .int i := hv
        have hv' : v' = .int j := hv'
        subst hv hv'
        exact ⟨i, j, rfl, by omega, q th1 _ H1 (Fw.refl r1.ok) walks_r⟩
      · cases e
    · cases e
end
/-! ### comprehensions -/
def wipeR (rh : Rho) : List Nat → Rho
  | [] => rh
  | v :: vs => (wipeR rh vs).set v none
theorem wipeR_len (rh : Rho) : ∀ vs : List Nat, (wipeR rh vs).length = rh.length
  | [] => rfl
  | v :: vs => by unfold wipeR; rw [List.length_set, wipeR_len rh vs]
theorem wipeR_some {rh : Rho} {i : Nat} {d : D} : ∀ {vs : List Nat}, (wipeR rh vs)[i]? = some (some d) → rh[i]? = some (some d) ∧ i ∉ vs
  | [], h => ⟨h, by simp⟩
  | v :: vs, h => by
    unfold wipeR at h
    by_cases e : v = i
    · subst e
      by_cases hl : v < (wipeR rh vs).length
      · rw [List.getElem?_set_self hl] at h; cases h
      · rw [List.getElem?_eq_none (by simpa using hl)] at h; cases h
    · rw [List.getElem?_set_ne e] at h
      obtain ⟨h1, h2⟩ := wipeR_some h
      exact ⟨h1, by simp only [List.mem_cons, not_or]; exact ⟨fun z => e z.symm, h2⟩⟩
theorem wipe_in {σ : L2.St} {i : Nat} : ∀ {vs : List Nat}, i ∈ vs → i < σ.length → (wipe σ vs)[i]? = some none
  | [], h, _ => by cases h
  | v :: vs, h, hl => by
    unfold wipe
    by_cases e : v = i
    · subst e
      rw [List.getElem?_set_self (by rw [wipe_length]; exact hl)]
    · rw [List.getElem?_set_ne e]
      exact wipe_in (by rcases List.mem_cons.mp h with z | z; exact absurd z.symm e; exact z) hl
theorem wipe_set {σ : L2.St} {i : Nat} {x : Option V} {vs : List Nat} (h : i ∈ vs) : wipe (σ.set i x) vs = wipe σ vs := by
  apply List.ext_getElem?
  intro j
  by_cases hj : j ∈ vs
  · by_cases hl : j < σ.length
    · rw [wipe_in hj (by simpa using hl), wipe_in hj hl]
    · rw [List.getElem?_eq_none (by rw [wipe_length]; simpa using hl), List.getElem?_eq_none (by rw [wipe_length]; simpa using hl)]
  · rw [wipe_out hj, wipe_out hj, List.getElem?_set_ne]
    rintro rfl
    exact hj h
theorem wipe_wipe {σ : L2.St} {vs : List Nat} : wipe (wipe σ vs) vs = wipe σ vs := by
  apply List.ext_getElem?
  intro j
  by_cases hj : j ∈ vs
  · by_cases hl : j < σ.length
    · rw [wipe_in hj (by rw [wipe_length]; exact hl), wipe_in hj hl]
    · rw [List.getElem?_eq_none (by rw [wipe_length, wipe_length]; simpa using hl), List.getElem?_eq_none (by rw [wipe_length]; simpa using hl)]
  · rw [wipe_out hj]
theorem Rl.wipe {g : Gam} {rh : Rho} {mu : Mu} {th : Th} {σ : L2.St} {H : Hp} (r : Rl g rh mu th σ H) (vs : List Nat) : Rl g (wipeR rh vs) mu th (L2.wipe σ vs) H :=
  ⟨r.ok, by rw [wipeR_len, wipe_length, r.len], fun i d e => by
    obtain ⟨e1, e2⟩ := wipeR_some e
    obtain ⟨v, e3, e4⟩ := r.slt i d e1
    exact ⟨v, by rw [wipe_out e2]; exact e3, e4⟩⟩
/-- a comprehension's target: it stores its own names alone -/
def TgLc (g : Gam) (own : List Nat) (G : TG) (t : Tg) : Prop := ∀ rh mu th d v σ H rh', Rl g rh mu th σ H → Rp g th (Gz th mu H) d v → t d rh = some rh' → ∀ Q : L2.St → Hp → Prop, (∀ σ', Rl g rh' mu th σ' H → wipe σ' own = wipe σ own → Q σ' H) → G v σ H Q
theorem tgLc_name {g : Gam} {own : List Nat} {j : Nat} (h : j ∈ own) : TgLc g own (gName j) (tNm j) := fun rh mu th d v σ H rh' r hd e Q k => by
  have e' : rh.set j (some d) = rh' := Option.some.inj e
  subst e'
  exact k _ (r.set j hd) (wipe_set h)
def lcLoop (t : Tg) (c : M Bool) (m : ME) (rh0 : Rho) : List D → Mu → Option (List D × Mu)
  | [], mu => some ([], mu)
  | d :: ds, mu => match t d rh0 with
    | none => none
    | some rh1 => match c rh1 mu with
      | some (.ok true, mu1) => match m rh1 mu1 with
        | some (.ok y, mu2) => (lcLoop t c m rh0 ds mu2).map fun p => (y :: p.1, p.2)
        | _ => none
      | some (.ok false, mu1) => lcLoop t c m rh0 ds mu1
      | _ => none
def mLc (own : List Nat) (it : M (List D)) (t : Tg) (c : M Bool) (m : ME) : ME := bindM it fun ds rh mu => match lcLoop t c m (wipeR rh own) ds mu with
  | some (ys, mu') => (few ys).map fun zs => (.ok (.lst zs), mu')
  | none => none
def mYes : M Bool := retM true
theorem canT_yes {g : Gam} {W : WX} {σ : L2.St} {H : Hp} {Q : Bool → Hp → Prop} (h : canT g W mYes σ H Q) : tYes σ H Q := by
  obtain ⟨rh, mu, th, r, h⟩ := h
  exact canAt_ret (R := RT) r h th true H (Fw.refl r.ok) rfl
section
variable {g : Gam} {W : WX} {it : M (List D)} {t : Tg} {c : M Bool} {m : ME} {G : TG} {own : List Nat} {σ : L2.St} {H : Hp} {Q : VK}
/-- as WalksD, the hidden things being as they were -/
def WalksH (g : Gam) (th : Th) (G H0 : Hp) (J : It) (ds : List D) : Prop := ∀ th' mu' H', (∃ r, th'.ids = th.ids ++ r) → Ok g th' mu' H' → Ex G (Gz th' mu' H') → (∀ a ∈ th.hid, H' a = H0 a) → ∀ i : Nat,
  (∀ d, ds[i]? = some d → J.go i H' ∧ ∀ x H'', J.yld i H' x H'' → Ex H' H'' ∧ Rp g th' (Gz th' mu' H'') d x) ∧ (i = ds.length → J.stop i H')
theorem WalksD.h {th : Th} {G H0 : Hp} {J : It} {ds : List D} (h : WalksD g th G J ds) : WalksH g th G H0 J ds := fun th' mu' H' e o ex _ => h th' mu' H' e o ex
theorem lc_core' (hT : TgLc g own G t) {J : It} {H1 : Hp} {ds zs : List D} {rh : Rho} {mu1 muF : Mu} {th1 : Th} (hJ : WalksH g th1 (Gz th1 mu1 H1) H1 J ds) (r1 : Rl g rh mu1 th1 σ H1) (hl : lcLoop t c m (wipeR rh own) ds mu1 = some (zs, muF)) (hz : zs.length ≤ 100000)
    (fin : ∀ p th acc H', H1 p = none → Pfx (th1.hide p) th → Ok g th muF H' → Ex (Gz th1 mu1 H1) (Gz th muF H') → (∀ a ∈ th1.hid, H' a = H1 a) → H' p = some (.lst acc) → RpL g th (Gz th muF H') zs acc → Q (.ref p) H') :
    tLc (fun _ _ R => R J H1) G (canT g (fun _ _ _ _ => False) c) (canE g (fun _ _ _ _ => False) m) own σ H1 Q := by
  intro p hp
  have np := r1.ok.new hp
  have eg0 : Gz (th1.hide p) mu1 (upd H1 p (.lst [])) = Gz th1 mu1 H1 := (Gz_hide np).trans (Gz_hide0 hp)
  have o1 : Ok g (th1.hide p) mu1 (upd H1 p (.lst [])) := r1.ok.hide hp (fun _ z => nomatch z)
  have rw0 : ∀ th mu H', Pfx (th1.hide p) th → Ok g th mu H' → Ex (Gz th1 mu1 H1) (Gz th mu H') → Rl g (wipeR rh own) mu th (wipe σ own) H' := fun th mu H' pf o ex => by
    have rw1 := r1.wipe own
    refine ⟨o, rw1.len, fun i d e => ?_⟩
    obtain ⟨v, e3, e4⟩ := rw1.slt i d e
    exact ⟨v, e3, (Rp.ids (th := th1) (th' := th1.hide p) rfl d v e4).mono pf ex⟩
  refine ⟨fun i n H' => n = ds.length - i ∧ i ≤ ds.length ∧ ∃ mu th acc dacc rest, Pfx (th1.hide p) th ∧ Ok g th mu H' ∧ Ex (Gz th1 mu1 H1) (Gz th mu H') ∧ (∀ a ∈ th1.hid, H' a = H1 a) ∧ H' p = some (.lst acc) ∧ RpL g th (Gz th mu H') dacc acc ∧ lcLoop t c m (wipeR rh own) (ds.drop i) mu = some (rest, muF) ∧ dacc ++ rest = zs,
    ⟨ds.length, by simp, Nat.zero_le _, mu1, th1.hide p, [], [], zs, Pfx.refl, o1, by rw [eg0]; exact fun _ _ z => z, fun a ma => upd_ne fun z => np (.inr (by rw [← z]; exact ma)), upd_same, rfl, by simpa using hl, rfl⟩, ?_⟩
  rintro i n H' ⟨rfl, hi, mu, th, acc, dacc, rest, pf, o, ex, hh, hpa, hacc, el, ez⟩
  have eth : th = Th.hide ⟨th.ids, th1.hid⟩ p := by
    obtain ⟨ids, hid⟩ := th
    have : hid = p :: th1.hid := pf.hid
    subst this
    rfl
  have nh : p ∉ th1.hid := fun z => np (.inr z)
  have o' : Ok g (Th.hide ⟨th.ids, th1.hid⟩ p) mu H' := eth ▸ o
  have wki := hJ th mu H' pf.ids o ex hh i
  by_cases hlt : i < ds.length
  · have ed : ds.drop i = ds[i] :: ds.drop (i + 1) := List.drop_eq_getElem_cons hlt
    obtain ⟨go, yl⟩ := wki.1 ds[i] (List.getElem?_eq_getElem hlt)
    rw [ed] at el
    refine .inr ⟨go, fun H2 => ∃ mu th acc dacc rest, Pfx (th1.hide p) th ∧ Ok g th mu H2 ∧ Ex (Gz th1 mu1 H1) (Gz th mu H2) ∧ (∀ a ∈ th1.hid, H2 a = H1 a) ∧ H2 p = some (.lst acc) ∧ RpL g th (Gz th mu H2) dacc acc ∧ lcLoop t c m (wipeR rh own) (ds.drop (i + 1)) mu = some (rest, muF) ∧ dacc ++ rest = zs, ?_, ?_⟩
    · intro H2 hw
      exact ⟨ds.length - (i + 1), by omega, rfl, hlt, hw⟩
    · intro x H2 y
      obtain ⟨ex2, hx⟩ := yl x H2 y
      have fh : Fw g th mu H' th mu H2 := Fw.heap o ex2
      have r2 : Rl g (wipeR rh own) mu th (wipe σ own) H2 := rw0 th mu H2 pf fh.ok (ex.trans fh.ex)
      have el : (match t ds[i] (wipeR rh own) with
        | none => none
        | some rh1 => match c rh1 mu with
          | some (.ok true, mu1) => match m rh1 mu1 with
            | some (.ok y, mu2) => (lcLoop t c m (wipeR rh own) (ds.drop (i + 1)) mu2).map fun p => (y :: p.1, p.2)
            | _ => none
          | some (.ok false, mu1) => lcLoop t c m (wipeR rh own) (ds.drop (i + 1)) mu1
          | _ => none) = some (rest, muF) := el
      cases ht : t ds[i] (wipeR rh own) with
      | none => rw [ht] at el; cases el
      | some rh1 =>
        rw [ht] at el
        have el : (match c rh1 mu with
          | some (.ok true, mu1) => match m rh1 mu1 with
            | some (.ok y, mu2) => (lcLoop t c m (wipeR rh own) (ds.drop (i + 1)) mu2).map fun p => (y :: p.1, p.2)
            | _ => none
          | some (.ok false, mu1) => lcLoop t c m (wipeR rh own) (ds.drop (i + 1)) mu1
          | _ => none) = some (rest, muF) := el
        refine hT _ _ _ _ _ _ _ _ r2 hx ht _ fun σ2 r3 hw => ⟨hw.trans wipe_wipe, rh1, mu, th, r3, ?_⟩
        have hid : ∀ th' mu' H3, Fw g th mu H2 th' mu' H3 → (∀ a ∈ th1.hid, H3 a = H1 a) ∧ H3 p = some (.lst acc) := fun th' mu' H3 f => by
          have g1 := f.hd
          have g2 : ∀ a ∈ th.hid, H2 a = H' a := fh.hd
          have hp : th.hid = p :: th1.hid := pf.hid
          rw [hp] at g1 g2
          exact ⟨fun a ma => by rw [g1 a (List.mem_cons_of_mem _ ma), g2 a (List.mem_cons_of_mem _ ma)]; exact hh a ma, by rw [g1 p List.mem_cons_self, g2 p List.mem_cons_self]; exact hpa⟩
        cases hc : c rh1 mu with
        | none => rw [hc] at el; cases el
        | some pc =>
          obtain ⟨rc, muc⟩ := pc
          rw [hc] at el
          cases rc with
          | er x => cases el
          | ok bc =>
            refine ⟨.ok bc, muc, hc, fun th2 b H3 f2 hb => ?_⟩
            have hb : bc = b := hb
            subst hb
            cases bc with
            | false =>
              show ∃ mu th acc dacc rest, _
              obtain ⟨k1, k2⟩ := hid th2 muc H3 f2
              have ff := fh.trans f2
              exact ⟨muc, th2, acc, dacc, rest, pf.trans ff.pf, f2.ok, ex.trans ff.ex, k1, k2, RpL.mono ff.pf ff.ex _ _ hacc, el, ez⟩
            | true =>
              show canE g (fun _ _ _ _ => False) m σ2 H3 _
              have el : (match m rh1 muc with
                | some (.ok y, mu2) => (lcLoop t c m (wipeR rh own) (ds.drop (i + 1)) mu2).map fun p => (y :: p.1, p.2)
                | _ => none) = some (rest, muF) := el
              refine ⟨rh1, muc, th2, r3.fw f2, ?_⟩
              cases hm : m rh1 muc with
              | none => rw [hm] at el; cases el
              | some pm =>
                obtain ⟨rm, mum⟩ := pm
                rw [hm] at el
                cases rm with
                | er x => cases el
                | ok dy =>
                  refine ⟨.ok dy, mum, hm, fun th3 y H4 f3 hy => ?_⟩
                  have f23 := f2.trans f3
                  obtain ⟨k1, k2⟩ := hid th3 mum H4 f23
                  have ff := fh.trans f23
                  have el : (lcLoop t c m (wipeR rh own) (ds.drop (i + 1)) mum).map (fun p => (dy :: p.1, p.2)) = some (rest, muF) := el
                  cases hr : lcLoop t c m (wipeR rh own) (ds.drop (i + 1)) mum with
                  | none => rw [hr] at el; cases el
                  | some pr =>
                    obtain ⟨rest2, mu4⟩ := pr
                    rw [hr] at el
                    have e' : (dy :: rest2, mu4) = (rest, muF) := Option.some.inj el
                    cases e'
                    have pf3 := pf.trans ff.pf
                    have eth3 : th3 = Th.hide ⟨th3.ids, th1.hid⟩ p := by
                      obtain ⟨ids, hd⟩ := th3
                      have : hd = p :: th1.hid := pf3.hid
                      subst this
                      rfl
                    have o4 : Ok g (Th.hide ⟨th3.ids, th1.hid⟩ p) mum H4 := eth3 ▸ f3.ok
                    have nown : p ∉ Eb.own th3.ids mum := (o4.hid p List.mem_cons_self).1
                    have o5 : Ok g th3 mum (upd H4 p (.lst (acc ++ [y]))) := by
                      have z := o4.rehide (o := .lst (acc ++ [y])) nown (fun _ z => nomatch z)
                      exact eth3 ▸ z
                    have eg5 : Gz th3 mum (upd H4 p (.lst (acc ++ [y]))) = Gz th3 mum H4 := by
                      have z := Gz_hide (th := ⟨th3.ids, th1.hid⟩) (mu := mum) (H := H4) (p := p) (o := .lst (acc ++ [y])) (by rintro (z | z); exact nown z; exact np (.inr z))
                      exact eth3 ▸ z
                    have lacc : acc.length < 100000 := by
                      have := hacc.length
                      have e2 := congrArg List.length ez
                      rw [List.length_append, List.length_cons] at e2
                      omega
                    refine ⟨acc, k2, Evl.sz_lt lacc, mum, th3, acc ++ [y], dacc ++ [dy], rest2, pf3, o5, by rw [eg5]; exact ex.trans ff.ex, fun a ma => ?_, upd_same, ?_, hr, by rw [List.append_assoc]; exact ez⟩
                    · rw [upd_ne fun z => np (.inr (by rw [← z]; exact ma))]
                      exact k1 a ma
                    · rw [eg5]
                      exact RpL.append (RpL.mono ff.pf ff.ex _ _ hacc) (es := [dy]) (ws := [y]) ⟨y, [], rfl, hy, rfl⟩
  · have ei : i = ds.length := by omega
    refine .inl ⟨wki.2 ei, ?_⟩
    rw [ei, List.drop_length] at el
    have e' := Option.some.inj el
    cases e'
    rw [List.append_nil] at ez
    subst ez
    exact fin p th acc H' hp pf o ex hh hpa hacc
theorem can_lc (hT : TgLc g own G t) (h : canE g W (mLc own it t c m) σ H Q) : tLc (canI g W it) G (canT g (fun _ _ _ _ => False) c) (canE g (fun _ _ _ _ => False) m) own σ H Q :=
  (can_bind (R := RI g) h).imp fun J H1 ⟨ds, rh, mu1, th1, hJ, r1, h1⟩ => by
    obtain ⟨s, muF, e1, q⟩ := h1
    have e1 : (match lcLoop t c m (wipeR rh own) ds mu1 with
      | some (ys, mu') => (few ys).map fun zs => (Rs.ok (D.lst zs), mu')
      | none => none) = some (s, muF) := e1
    cases hl : lcLoop t c m (wipeR rh own) ds mu1 with
    | none => rw [hl] at e1; cases e1
    | some pr =>
      obtain ⟨ys, mu2⟩ := pr
      rw [hl] at e1
      have e9 : (few ys).map (fun zs => (Rs.ok (D.lst zs), mu2)) = some (s, muF) := e1
      clear e1
      cases hf : few ys with
      | none => rw [hf] at e9; cases e9
      | some zs =>
        rw [hf] at e9
        obtain ⟨rfl, hz⟩ := few_eq hf
        have e' : (Rs.ok (D.lst zs), mu2) = (s, muF) := Option.some.inj e9
        cases e'
        refine lc_core' hT hJ.h r1 hl hz fun p th acc H' hp pf o ex hh hpa hacc => ?_
        have nh : p ∉ th1.hid := fun z => r1.ok.new hp (.inr z)
        have eth : th = Th.hide ⟨th.ids, th1.hid⟩ p := by
          obtain ⟨ids, hid⟩ := th
          have : hid = p :: th1.hid := pf.hid
          subst this
          rfl
        have o' : Ok g (Th.hide ⟨th.ids, th1.hid⟩ p) muF H' := eth ▸ o
        obtain ⟨ou, eu, pu⟩ := o'.unhide (th := ⟨th.ids, th1.hid⟩) nh
        have eu' : Ex (Gz th muF H') (Gz ⟨th.ids, th1.hid⟩ muF H') := by
          have q := eu
          rw [← eth] at q
          exact q
        refine q ⟨th.ids, th1.hid⟩ (.ref p) H' ⟨⟨pf.ids, rfl⟩, ou, ex.trans eu', hh⟩ ⟨p, acc, rfl, pu.trans hpa, ?_⟩
        exact RpL.ids (th := th) (th' := ⟨th.ids, th1.hid⟩) rfl _ _ (RpL.mono Pfx.refl eu' _ _ hacc)
/-- a comprehension whose list is changed later -/
def mLcC (own : List Nat) (it : M (List D)) (t : Tg) (c : M Bool) (m : ME) : ME := bindM it fun ds rh mu => match lcLoop t c m (wipeR rh own) ds mu with
  | some (ys, mu') => (few ys).map fun zs => (.ok (.cel mu'.length), mu' ++ [.lst zs])
  | none => none
/-- a hidden list becomes a cell -/
theorem Ok.adopt {th : Th} {mu : Mu} {p : Addr} {xs : List V} {zs : List D} (k : Ok g (th.hide p) mu H) (nh : p ∉ th.hid) (hp : H p = some (.lst xs)) (r : RpL g (th.hide p) (Gz (th.hide p) mu H) zs xs) :
    Ok g (th.add p) (mu ++ [.lst zs]) H ∧ Gz (th.add p) (mu ++ [.lst zs]) H = Gz (th.hide p) mu H := by
  have np : p ∉ Eb.own th.ids mu := (k.hid p List.mem_cons_self).1
  have hlen : th.ids.length = mu.length := k.len
  have ea : Eb.own (th.add p).ids (mu ++ [.lst zs]) = Eb.own th.ids mu ++ [p] := own_app hlen rfl
  have eg : Gz (th.add p) (mu ++ [.lst zs]) H = Gz (th.hide p) mu H := by
    funext a
    unfold Gz
    rw [ea]
    show (if a ∈ Eb.own th.ids mu ++ [p] ∨ a ∈ th.hid then none else H a) = if a ∈ Eb.own th.ids mu ∨ a ∈ p :: th.hid then none else H a
    by_cases m : a ∈ Eb.own th.ids mu ∨ a ∈ p :: th.hid
    · rw [if_pos m, if_pos]
      rcases m with m | m
      · exact .inl (List.mem_append_left _ m)
      · rcases List.mem_cons.mp m with rfl | m
        · exact .inl (by simp)
        · exact .inr m
    · rw [if_neg m, if_neg]
      rintro (z | z)
      · rcases List.mem_append.mp z with z | z
        · exact m (.inl z)
        · exact m (.inr (by rw [List.mem_singleton.mp z]; exact List.mem_cons_self))
      · exact m (.inr (List.mem_cons_of_mem _ z))
  refine ⟨⟨by simp [Th.add, hlen], ?_, fun i a d e1 e2 => ?_, fun a m => ?_⟩, eg⟩
  · rw [ea]
    refine List.nodup_append.mpr ⟨k.nod, by simp, fun x hx y hy => ?_⟩
    rintro rfl
    exact np (by simpa [List.mem_singleton.mp hy] using hx)
  · rw [eg]
    have pm : ∀ {c : Cell}, CellOk g (th.hide p) (Gz (th.hide p) mu H) H a c → CellOk g (th.add p) (Gz (th.hide p) mu H) H a c := fun {c} x => (CellOk.ids (th := th.hide p) (th' := th) rfl x).mono Pfx.add (fun _ _ z => z) rfl
    have e1 : (th.ids ++ [p])[i]? = some a := e1
    by_cases hi : i < th.ids.length
    · rw [List.getElem?_append_left hi] at e1
      rw [List.getElem?_append_left (by rw [← hlen]; exact hi)] at e2
      exact pm (k.cel i a d e1 e2)
    · have h1 : i = th.ids.length := by
        have := (List.getElem?_eq_some_iff.mp e1).1
        simp at this; omega
      subst h1
      have q1 : p = a := by simpa using e1
      have q2 : Cell.lst zs = d := by
        rw [hlen] at e2
        simpa using e2
      subst q1 q2
      exact pm ⟨xs, hp, r⟩
  · rw [ea]
    obtain ⟨n, u⟩ := k.hid a (List.mem_cons_of_mem _ m)
    refine ⟨fun z => ?_, u⟩
    rcases List.mem_append.mp z with z | z
    · exact n z
    · exact nh (by rw [← List.mem_singleton.mp z]; exact m)
theorem can_lcC (hT : TgLc g own G t) (h : canE g W (mLcC own it t c m) σ H Q) : tLc (canI g W it) G (canT g (fun _ _ _ _ => False) c) (canE g (fun _ _ _ _ => False) m) own σ H Q :=
  (can_bind (R := RI g) h).imp fun J H1 ⟨ds, rh, mu1, th1, hJ, r1, h1⟩ => by
    obtain ⟨s, muF, e1, q⟩ := h1
    have e1 : (match lcLoop t c m (wipeR rh own) ds mu1 with
      | some (ys, mu') => (few ys).map fun zs => (Rs.ok (D.cel mu'.length), mu' ++ [.lst zs])
      | none => none) = some (s, muF) := e1
    cases hl : lcLoop t c m (wipeR rh own) ds mu1 with
    | none => rw [hl] at e1; cases e1
    | some pr =>
      obtain ⟨ys, mu2⟩ := pr
      rw [hl] at e1
      have e9 : (few ys).map (fun zs => (Rs.ok (D.cel mu2.length), mu2 ++ [.lst zs])) = some (s, muF) := e1
      clear e1
      cases hf : few ys with
      | none => rw [hf] at e9; cases e9
      | some zs =>
        rw [hf] at e9
        obtain ⟨rfl, hz⟩ := few_eq hf
        have e' : (Rs.ok (D.cel mu2.length), mu2 ++ [.lst zs]) = (s, muF) := Option.some.inj e9
        cases e'
        refine lc_core' hT hJ.h r1 hl hz fun p th acc H' hp pf o ex hh hpa hacc => ?_
        have nh : p ∉ th1.hid := fun z => r1.ok.new hp (.inr z)
        obtain ⟨ids, hid⟩ := th
        have : hid = p :: th1.hid := pf.hid
        subst this
        obtain ⟨o2, eg⟩ := Ok.adopt (th := ⟨ids, th1.hid⟩) o nh hpa hacc
        refine q (Th.add ⟨ids, th1.hid⟩ p) (.ref p) H' ⟨⟨?_, rfl⟩, o2, by rw [eg]; exact ex, hh⟩ ⟨p, rfl, ?_⟩
        · obtain ⟨r, er⟩ := pf.ids
          have er : ids = th1.ids ++ r := er
          exact ⟨r ++ [p], by show ids ++ [p] = _; rw [er, List.append_assoc]⟩
        · have hlen : ids.length = mu2.length := o.len
          show (ids ++ [p])[mu2.length]? = some p
          rw [← hlen]
          simp
end
section
variable {X : Cx} {g : Gam} {W : WX} {elt tg iter : Expr} {ifs : List Expr} {scope : Scope} {own : List (Str × Nat)} {pos spos : Pos} {it : M (List D)} {t : Tg} {c : M Bool} {m : ME} {G : TG}
/-- a comprehension over a list, be it a cell that the block leaves alone -/
def mLcK (own : List Nat) (ma : ME) (t : Tg) (c : M Bool) (m : ME) : ME := bindM ma fun d rh mu => match d with
  | .lst ds => match lcLoop t c m (wipeR rh own) ds mu with
    | some (ys, mu') => (few ys).map fun zs => (.ok (.lst zs), mu')
    | none => none
  | .cel k => match mu[k]? with
    | some (.lst ds) => match lcLoop t c m (wipeR rh own) ds (mu.set k .dead) with
      | some (ys, mu') => if mu'[k]?.isSome = true then (few ys).map fun zs => (.ok (.lst zs), mu'.set k (.lst ds)) else none
      | none => none
    | _ => none
  | _ => none
section
variable {g : Gam} {W : WX} {ma : ME} {t : Tg} {c : M Bool} {m : ME} {G : TG} {own : List Nat} {σ : L2.St} {H : Hp} {Q : VK} {K : PySem.W.Frag}
theorem own_live {a : Addr} {ids : List Addr} {c : Cell} {mu : Mu} (h : c.live = true) : Eb.own (a :: ids) (c :: mu) = a :: Eb.own ids mu := by
  show (if c.live = true then a :: Eb.own ids mu else Eb.own ids mu) = _
  rw [if_pos h]
theorem own_dead {a : Addr} {ids : List Addr} {c : Cell} {mu : Mu} (h : ¬ c.live = true) : Eb.own (a :: ids) (c :: mu) = Eb.own ids mu := by
  show (if c.live = true then a :: Eb.own ids mu else Eb.own ids mu) = _
  rw [if_neg h]
/-- a cell is hidden for a while -/
theorem Ok.lay {th : Th} {mu : Mu} {k : Nat} {a : Addr} {ds : List D} (o : Ok g th mu H) (ha : th.ids[k]? = some a) (hc : mu[k]? = some (.lst ds)) :
    Ok g (th.hide a) (mu.set k .dead) H ∧ Gz (th.hide a) (mu.set k .dead) H = Gz th mu H ∧ a ∉ th.hid := by
  obtain ⟨o2, _, _⟩ := o.freeze ha hc rfl
  have hl : k < mu.length := (List.getElem?_eq_some_iff.mp hc).1
  have ma : a ∈ Eb.own th.ids mu := own_mem.mpr ⟨k, _, ha, hc, rfl⟩
  have nh : a ∉ th.hid := fun m => (o.hid a m).1 ma
  have mem : ∀ b, b ∈ Eb.own th.ids (mu.set k .dead) ↔ b ∈ Eb.own th.ids mu ∧ b ≠ a := fun b => by
    constructor
    · intro h
      obtain ⟨j, d, e1, e2, e3⟩ := own_mem.mp h
      have hj : j ≠ k := by
        rintro rfl
        rw [List.getElem?_set_self hl] at e2
        have := Option.some.inj e2
        subst this
        cases e3
      rw [List.getElem?_set_ne (Ne.symm hj)] at e2
      refine ⟨own_mem.mpr ⟨j, d, e1, e2, e3⟩, ?_⟩
      rintro rfl
      exact hj (own_inj o.nod e1 ha e2 hc e3 rfl)
    · rintro ⟨h, ne⟩
      obtain ⟨j, d, e1, e2, e3⟩ := own_mem.mp h
      have hj : j ≠ k := by
        rintro rfl
        rw [ha] at e1
        exact ne (Option.some.inj e1).symm
      exact own_mem.mpr ⟨j, d, e1, by rw [List.getElem?_set_ne (Ne.symm hj)]; exact e2, e3⟩
  have eg : Gz (th.hide a) (mu.set k .dead) H = Gz th mu H := by
    funext b
    unfold Gz
    show (if b ∈ Eb.own th.ids (mu.set k .dead) ∨ b ∈ a :: th.hid then none else H b) = if b ∈ Eb.own th.ids mu ∨ b ∈ th.hid then none else H b
    by_cases m : b ∈ Eb.own th.ids mu ∨ b ∈ th.hid
    · rw [if_pos m, if_pos]
      rcases m with m | m
      · by_cases hb : b = a
        · exact .inr (by rw [hb]; exact List.mem_cons_self)
        · exact .inl ((mem b).mpr ⟨m, hb⟩)
      · exact .inr (List.mem_cons_of_mem _ m)
    · rw [if_neg m, if_neg]
      rintro (z | z)
      · exact m (.inl ((mem b).mp z).1)
      · rcases List.mem_cons.mp z with rfl | z
        · exact m (.inl ma)
        · exact m (.inr z)
  refine ⟨⟨o2.len, o2.nod, fun i b d e1 e2 => ?_, fun b m => ?_⟩, eg, nh⟩
  · rw [eg]
    by_cases hi : i = k
    · subst hi
      rw [List.getElem?_set_self hl] at e2
      have := Option.some.inj e2
      subst this
      trivial
    · rw [List.getElem?_set_ne (Ne.symm hi)] at e2
      exact CellOk.ids (th := th) (th' := th.hide a) rfl (o.cel i b d e1 e2)
  · rcases List.mem_cons.mp m with rfl | m
    · exact ⟨fun z => ((mem b).mp z).2 rfl, (o.cel k b _ ha hc).solid rfl⟩
    · obtain ⟨n, u⟩ := o.hid b m
      exact ⟨fun z => n ((mem b).mp z).1, u⟩
/-- .. and comes back -/
theorem Ok.rise {th : Th} {mu : Mu} {k : Nat} {a : Addr} {xs : List V} {ds : List D} (o : Ok g (th.hide a) mu H) (ha : th.ids[k]? = some a) (hl : k < mu.length) (hd : ∀ c, mu[k]? = some c → c.live = false) (nh : a ∉ th.hid) (hH : H a = some (.lst xs)) (r : RpL g th (Gz (th.hide a) mu H) ds xs) :
    Ok g th (mu.set k (.lst ds)) H ∧ Gz th (mu.set k (.lst ds)) H = Gz (th.hide a) mu H := by
  have na : a ∉ Eb.own th.ids mu := (o.hid a List.mem_cons_self).1
  have hlen : th.ids.length = mu.length := o.len
  have gen : ∀ (ids : List Addr) (mu : Mu) (k : Nat), ids[k]? = some a → k < mu.length → (∀ c, mu[k]? = some c → c.live = false) → ∃ l1 l2, Eb.own ids mu = l1 ++ l2 ∧ Eb.own ids (mu.set k (.lst ds)) = l1 ++ a :: l2 := by
    intro ids
    induction ids with
    | nil => intro mu k h; simp at h
    | cons b ids ih =>
      intro mu k h hl hd
      cases mu with
      | nil => simp at hl
      | cons c mu =>
        cases k with
        | zero =>
          have : b = a := by simpa using h
          subst this
          have hc : c.live = false := hd c rfl
          exact ⟨[], Eb.own ids mu, own_dead (by rw [hc]; exact Bool.false_ne_true), own_live rfl⟩
        | succ k =>
          obtain ⟨l1, l2, e1, e2⟩ := ih mu k (by simpa using h) (by simpa using hl) (fun c' hc' => hd c' (by simpa using hc'))
          by_cases hc : c.live = true
          · exact ⟨b :: l1, l2, by rw [own_live hc, e1]; rfl, by show Eb.own (b :: ids) (c :: mu.set k (.lst ds)) = _; rw [own_live hc, e2]; rfl⟩
          · exact ⟨l1, l2, by rw [own_dead hc, e1], by show Eb.own (b :: ids) (c :: mu.set k (.lst ds)) = _; rw [own_dead hc, e2]⟩
  obtain ⟨l1, l2, e1, e2⟩ := gen th.ids mu k ha hl hd
  have mem : ∀ b, b ∈ Eb.own th.ids (mu.set k (.lst ds)) ↔ b ∈ Eb.own th.ids mu ∨ b = a := fun b => by
    rw [e1, e2]
    simp only [List.mem_append, List.mem_cons]
    exact ⟨fun h => h.elim (fun h => .inl (.inl h)) fun h => h.elim .inr fun h => .inl (.inr h), fun h => h.elim (fun h => h.elim .inl fun h => .inr (.inr h)) fun h => .inr (.inl h)⟩
  have eg : Gz th (mu.set k (.lst ds)) H = Gz (th.hide a) mu H := by
    funext b
    unfold Gz
    show (if b ∈ Eb.own th.ids (mu.set k (.lst ds)) ∨ b ∈ th.hid then none else H b) = if b ∈ Eb.own th.ids mu ∨ b ∈ a :: th.hid then none else H b
    have q : (b ∈ Eb.own th.ids (mu.set k (.lst ds)) ∨ b ∈ th.hid) ↔ (b ∈ Eb.own th.ids mu ∨ b ∈ a :: th.hid) := by
      rw [mem b, List.mem_cons]
      exact ⟨fun h => h.elim (fun h => h.elim .inl fun h => .inr (.inl h)) fun h => .inr (.inr h), fun h => h.elim (fun h => .inl (.inl h)) fun h => h.elim (fun h => .inl (.inr h)) .inr⟩
    by_cases m : b ∈ Eb.own th.ids mu ∨ b ∈ a :: th.hid
    · rw [if_pos m, if_pos (q.mpr m)]
    · rw [if_neg m, if_neg fun z => m (q.mp z)]
  refine ⟨⟨by simp [hlen], ?_, fun i b d h1 h2 => ?_, fun b m => ?_⟩, eg⟩
  · have nd : (Eb.own th.ids mu).Nodup := o.nod
    rw [e2]
    rw [e1] at nd na
    refine (List.perm_middle.nodup_iff).mpr (List.nodup_cons.mpr ⟨na, nd⟩)
  · rw [eg]
    by_cases hi : i = k
    · subst hi
      rw [ha] at h1
      cases h1
      rw [List.getElem?_set_self hl] at h2
      have := Option.some.inj h2
      subst this
      exact ⟨xs, hH, r⟩
    · rw [List.getElem?_set_ne (Ne.symm hi)] at h2
      exact CellOk.ids (th := th.hide a) (th' := th) rfl (o.cel i b d h1 h2)
  · obtain ⟨n, u⟩ := o.hid b (List.mem_cons_of_mem _ m)
    refine ⟨fun z => ?_, u⟩
    rcases (mem b).mp z with z | rfl
    · exact n z
    · exact nh m
theorem can_lcK (hK : K = g.K) (hT : TgLc g own G t) (h : canE g W (mLcK own ma t c m) σ H Q) : tLc (fun σ H R => (canE g W ma) σ H fun v H1 => ∃ a, v = .ref a ∧ (∃ xs, SqL K H1 a xs) ∧ R (Itl K a) H1) G (canT g (fun _ _ _ _ => False) c) (canE g (fun _ _ _ _ => False) m) own σ H Q :=
  (can_bind (R := RE g) h).imp fun v H1 ⟨d, rh, mu1, th1, hd, r1, h1⟩ => by
    subst hK
    obtain ⟨s, muF, e1, q⟩ := h1
    dsimp only at e1
    split at e1
    · rename_i ds
      obtain ⟨a, xs, rfl, ga, hr⟩ := hd
      refine ⟨a, rfl, ⟨xs, SqL.of (Gz_sub _ _ ga)⟩, ?_⟩
      cases hl : lcLoop t c m (wipeR rh own) ds mu1 with
      | none => rw [hl] at e1; cases e1
      | some pr =>
        obtain ⟨ys, mu2⟩ := pr
        rw [hl] at e1
        have e9 : (few ys).map (fun zs => (Rs.ok (D.lst zs), mu2)) = some (s, muF) := e1
        cases hf : few ys with
        | none => rw [hf] at e9; cases e9
        | some zs =>
          rw [hf] at e9
          obtain ⟨rfl, hz⟩ := few_eq hf
          have e' : (Rs.ok (D.lst zs), mu2) = (s, muF) := Option.some.inj e9
          cases e'
          refine lc_core' hT (walks_l (SqL.of ga) hr).h r1 hl hz fun p th acc H' hp pf o ex hh hpa hacc => ?_
          have nh : p ∉ th1.hid := fun z => r1.ok.new hp (.inr z)
          obtain ⟨ids, hid⟩ := th
          have : hid = p :: th1.hid := pf.hid
          subst this
          obtain ⟨ou, eu, pu⟩ := Ok.unhide (th := ⟨ids, th1.hid⟩) o nh
          refine q ⟨ids, th1.hid⟩ (.ref p) H' ⟨⟨pf.ids, rfl⟩, ou, ex.trans eu, hh⟩ ⟨p, acc, rfl, pu.trans hpa, ?_⟩
          exact RpL.ids (th := ⟨ids, p :: th1.hid⟩) (th' := ⟨ids, th1.hid⟩) rfl _ _ (RpL.mono Pfx.refl eu _ _ hacc)
    · rename_i k
      split at e1
      · rename_i ds hk
        obtain ⟨a, rfl, ha⟩ := hd
        obtain ⟨xs, hx, hr⟩ := r1.ok.cel k a _ ha hk
        refine ⟨a, rfl, ⟨xs, SqL.of hx⟩, ?_⟩
        obtain ⟨oL, eL, na⟩ := r1.ok.lay ha hk
        have rL : Rl g rh (mu1.set k .dead) (th1.hide a) σ H1 := ⟨oL, r1.len, fun i d e => by
          obtain ⟨u, e1, e2⟩ := r1.slt i d e
          exact ⟨u, e1, by rw [eL]; exact Rp.ids (th := th1) (th' := th1.hide a) rfl d u e2⟩⟩
        cases hl : lcLoop t c m (wipeR rh own) ds (mu1.set k .dead) with
        | none => rw [hl] at e1; cases e1
        | some pr =>
          obtain ⟨ys, mu2⟩ := pr
          rw [hl] at e1
          dsimp only at e1
          split at e1
          · rename_i hsm
            have e9 : (few ys).map (fun zs => (Rs.ok (D.lst zs), mu2.set k (.lst ds))) = some (s, muF) := e1
            cases hf : few ys with
            | none => rw [hf] at e9; cases e9
            | some zs =>
              rw [hf] at e9
              obtain ⟨rfl, hz⟩ := few_eq hf
              have e' : (Rs.ok (D.lst zs), mu2.set k (.lst ds)) = (s, muF) := Option.some.inj e9
              cases e'
              have wk : WalksH g (th1.hide a) (Gz (th1.hide a) (mu1.set k .dead) H1) H1 (Itl g.K a) ds := by
                intro th' mu' H' pf o ex hh i
                have hxa : SqL g.K H' a xs := SqL.of ((hh a List.mem_cons_self).trans hx)
                have hrr : RpL g th' (Gz th' mu' H') ds xs := by
                  rw [eL] at ex
                  have z : RpL g ⟨th1.ids, th'.hid⟩ (Gz th1 mu1 H1) ds xs := RpL.ids (th := th1) (th' := ⟨th1.ids, th'.hid⟩) rfl _ _ hr
                  exact RpL.mono (th := ⟨th1.ids, th'.hid⟩) (th' := th') ⟨pf, rfl⟩ ex _ _ z
                refine ⟨fun d e => ?_, fun e => ⟨xs, hxa, by rw [hrr.length, e]; exact Nat.le_refl _⟩⟩
                obtain ⟨w, e1, e2⟩ := hrr.get e
                refine ⟨⟨xs, w, hxa, e1⟩, fun x H'' y => ?_⟩
                obtain ⟨rfl, y⟩ := y
                have e3 := y xs hxa
                rw [e1] at e3
                have : w = x := Option.some.inj e3
                subst this
                exact ⟨fun _ _ z => z, e2⟩
              refine lc_core' (th1 := th1.hide a) hT wk rL hl hz fun p th acc H' hp pf o ex hh hpa hacc => ?_
              have nh : p ∉ a :: th1.hid := fun z => oL.new hp (.inr z)
              obtain ⟨ids, hid⟩ := th
              have : hid = p :: a :: th1.hid := pf.hid
              subst this
              obtain ⟨ou, eu, pu⟩ := Ok.unhide (th := ⟨ids, a :: th1.hid⟩) o nh
              have hacc2 : RpL g ⟨ids, a :: th1.hid⟩ (Gz ⟨ids, a :: th1.hid⟩ mu2 H') zs acc := RpL.ids (th := ⟨ids, p :: a :: th1.hid⟩) (th' := ⟨ids, a :: th1.hid⟩) rfl _ _ (RpL.mono Pfx.refl eu _ _ hacc)
              have pids : ∃ r, ids = th1.ids ++ r := pf.ids
              have hak : ids[k]? = some a := by
                obtain ⟨r, er⟩ := pids
                rw [er, List.getElem?_append_left ((List.getElem?_eq_some_iff.mp ha).1)]
                exact ha
              have hkl : k < mu2.length := by
                cases hq : mu2[k]? with
                | none => rw [hq] at hsm; cases hsm
                | some c0 => exact (List.getElem?_eq_some_iff.mp hq).1
              have hdead : ∀ c0, mu2[k]? = some c0 → c0.live = false := fun c0 hc0 => by
                cases hlv : c0.live with
                | false => rfl
                | true => exact absurd (own_mem.mpr ⟨k, c0, hak, hc0, hlv⟩) (ou.hid a List.mem_cons_self).1
              have hHa : H' a = some (.lst xs) := (hh a List.mem_cons_self).trans hx
              have exx : Ex (Gz th1 mu1 H1) (Gz ⟨ids, a :: th1.hid⟩ mu2 H') := by
                rw [eL] at ex
                exact ex.trans eu
              have hrr : RpL g ⟨ids, th1.hid⟩ (Gz (Th.hide ⟨ids, th1.hid⟩ a) mu2 H') ds xs := RpL.mono (th := th1) (th' := ⟨ids, th1.hid⟩) ⟨pids, rfl⟩ exx _ _ hr
              obtain ⟨oR, eR⟩ := Ok.rise (th := ⟨ids, th1.hid⟩) ou hak hkl hdead na hHa hrr
              refine q ⟨ids, th1.hid⟩ (.ref p) H' ⟨⟨pids, rfl⟩, oR, by rw [eR]; exact exx, fun b hb => hh b (List.mem_cons_of_mem _ hb)⟩ ⟨p, acc, rfl, ?_, ?_⟩
              · rw [eR]
                exact pu.trans hpa
              · rw [eR]
                exact RpL.ids (th := ⟨ids, a :: th1.hid⟩) (th' := ⟨ids, th1.hid⟩) rfl _ _ hacc2
          · cases e1
      · cases e1
    · cases e1
end
/-- no exception leaves a comprehension's block -/
abbrev W0 : WX := fun _ _ _ _ => False
theorem pmts_nil : PTs X [] (canT g W mYes) := ⟨fun pins s σ H Q I h => pts_nil.run pins s σ H Q I (canT_yes h)⟩
theorem pmts_one {c : Expr} {mt : M Bool} (h : PT X c (canT g W mt)) : PTs X [c] (canT g W mt) := pts_one h
theorem pm_lc (hc : X.calm = true) (hN : X.N.Nodup) (hi : PI X tg iter (canI g W it)) (ok : BlkOk X.N X.env.scope scope own) (hT : TgLc g (own.map (·.2)) G t)
    (hg : ∀ (s : Shared) (H : Hp) (C : Addr) (cl : List (Str × Addr)) (fp : List Addr), PG (X.blk s H scope (compEnvC scope cl C X.env) fp) tg G)
    (ht : ∀ (s : Shared) (H : Hp) (C : Addr) (cl : List (Str × Addr)) (fp : List Addr), PTs (X.blk s H scope (compEnvC scope cl C X.env) fp) ifs (canT g W0 c))
    (he : ∀ (s : Shared) (H : Hp) (C : Addr) (cl : List (Str × Addr)) (fp : List Addr), PE (X.blk s H scope (compEnvC scope cl C X.env) fp) elt (canE g W0 m))
    (hs : ∀ x, foldedSetIterable iter X.env x = pure x := by intro _; rfl) : PE X (.ListComp elt [⟨tg, iter, ifs, 0⟩] scope pos) (canE g W (mLc (own.map (·.2)) it t c m)) :=
  PEimp (pe_lc hc hN hi ok hg ht he hs) fun _ _ _ => can_lc hT
theorem pm_lcC (hc : X.calm = true) (hN : X.N.Nodup) (hi : PI X tg iter (canI g W it)) (ok : BlkOk X.N X.env.scope scope own) (hT : TgLc g (own.map (·.2)) G t)
    (hg : ∀ (s : Shared) (H : Hp) (C : Addr) (cl : List (Str × Addr)) (fp : List Addr), PG (X.blk s H scope (compEnvC scope cl C X.env) fp) tg G)
    (ht : ∀ (s : Shared) (H : Hp) (C : Addr) (cl : List (Str × Addr)) (fp : List Addr), PTs (X.blk s H scope (compEnvC scope cl C X.env) fp) ifs (canT g W0 c))
    (he : ∀ (s : Shared) (H : Hp) (C : Addr) (cl : List (Str × Addr)) (fp : List Addr), PE (X.blk s H scope (compEnvC scope cl C X.env) fp) elt (canE g W0 m))
    (hs : ∀ x, foldedSetIterable iter X.env x = pure x := by intro _; rfl) : PE X (.ListComp elt [⟨tg, iter, ifs, 0⟩] scope pos) (canE g W (mLcC (own.map (·.2)) it t c m)) :=
  PEimp (pe_lc hc hN hi ok hg ht he hs) fun _ _ _ => can_lcC hT
theorem pm_lcK {ma : ME} (hc : X.calm = true) (hK : X.K = g.K) (hN : X.N.Nodup) (hi : PE X iter (canE g W ma)) (ok : BlkOk X.N X.env.scope scope own) (hT : TgLc g (own.map (·.2)) G t)
    (hg : ∀ (s : Shared) (H : Hp) (C : Addr) (cl : List (Str × Addr)) (fp : List Addr), PG (X.blk s H scope (compEnvC scope cl C X.env) fp) tg G)
    (ht : ∀ (s : Shared) (H : Hp) (C : Addr) (cl : List (Str × Addr)) (fp : List Addr), PTs (X.blk s H scope (compEnvC scope cl C X.env) fp) ifs (canT g W0 c))
    (he : ∀ (s : Shared) (H : Hp) (C : Addr) (cl : List (Str × Addr)) (fp : List Addr), PE (X.blk s H scope (compEnvC scope cl C X.env) fp) elt (canE g W0 m))
    (hs : ∀ x, foldedSetIterable iter X.env x = pure x := by intro _; rfl) : PE X (.ListComp elt [⟨tg, iter, ifs, 0⟩] scope pos) (canE g W (mLcK (own.map (·.2)) ma t c m)) :=
  PEimp (pe_lc hc hN (pi_list hi) ok hg ht he hs) fun _ _ _ => can_lcK hK hT
theorem pm_setLc {i : Nat} {y : Str} {py : Pos} (hc : X.calm = true) (hN : X.N.Nodup) (hy : X.N[i]? = some y) (hyl : X.env.scope.names.lookup y = some .local)
    (hsw : swapsWith (.ListComp elt [⟨tg, iter, ifs, 0⟩] scope pos) (some (.Name y py)) spos.line X.env = pure true) (hi : PI X tg iter (canI g W it)) (ok : BlkOk X.N X.env.scope scope own) (hT : TgLc g (own.map (·.2)) G t)
    (hg : ∀ (s : Shared) (H : Hp) (C : Addr) (cl : List (Str × Addr)) (fp : List Addr), PG (X.blk s H scope (compEnvC scope cl C X.env) fp) tg G)
    (ht : ∀ (s : Shared) (H : Hp) (C : Addr) (cl : List (Str × Addr)) (fp : List Addr), PTs (X.blk s H scope (compEnvC scope cl C X.env) fp) ifs (canT g W0 c))
    (he : ∀ (s : Shared) (H : Hp) (C : Addr) (cl : List (Str × Addr)) (fp : List Addr), PE (X.blk s H scope (compEnvC scope cl C X.env) fp) elt (canE g W0 m))
    (hs : ∀ x, foldedSetIterable iter X.env x = pure x := by intro _; rfl) : PS X (.Assign [.Name y py] (.ListComp elt [⟨tg, iter, ifs, 0⟩] scope pos) spos) (canS g W (sAsg (mLc (own.map (·.2)) it t c m) (tNm i))) :=
  PSimp (ps_setLc hc hN hy hyl hsw hi ok hg ht he hs) fun Dn σ H h => (can_lc hT ((canS_bind (R := RE g) h).imp fun v H1 z => (show gName i v σ H1 Dn.nx from by
    obtain ⟨d, rh, mu1, th1, hd, r1, o, mu', e1, q⟩ := z
    have e' : (Out.nx (rh.set i (some d)), mu1) = (o, mu') := Option.some.inj e1
    cases e'
    exact q th1 _ H1 (Fw.refl r1.ok) (r1.set i hd))))
theorem pm_setLcC {i : Nat} {y : Str} {py : Pos} (hc : X.calm = true) (hN : X.N.Nodup) (hy : X.N[i]? = some y) (hyl : X.env.scope.names.lookup y = some .local)
    (hsw : swapsWith (.ListComp elt [⟨tg, iter, ifs, 0⟩] scope pos) (some (.Name y py)) spos.line X.env = pure true) (hi : PI X tg iter (canI g W it)) (ok : BlkOk X.N X.env.scope scope own) (hT : TgLc g (own.map (·.2)) G t)
    (hg : ∀ (s : Shared) (H : Hp) (C : Addr) (cl : List (Str × Addr)) (fp : List Addr), PG (X.blk s H scope (compEnvC scope cl C X.env) fp) tg G)
    (ht : ∀ (s : Shared) (H : Hp) (C : Addr) (cl : List (Str × Addr)) (fp : List Addr), PTs (X.blk s H scope (compEnvC scope cl C X.env) fp) ifs (canT g W0 c))
    (he : ∀ (s : Shared) (H : Hp) (C : Addr) (cl : List (Str × Addr)) (fp : List Addr), PE (X.blk s H scope (compEnvC scope cl C X.env) fp) elt (canE g W0 m))
    (hs : ∀ x, foldedSetIterable iter X.env x = pure x := by intro _; rfl) : PS X (.Assign [.Name y py] (.ListComp elt [⟨tg, iter, ifs, 0⟩] scope pos) spos) (canS g W (sAsg (mLcC (own.map (·.2)) it t c m) (tNm i))) :=
  PSimp (ps_setLc hc hN hy hyl hsw hi ok hg ht he hs) fun Dn σ H h => (can_lcC hT ((canS_bind (R := RE g) h).imp fun v H1 z => (show gName i v σ H1 Dn.nx from by
    obtain ⟨d, rh, mu1, th1, hd, r1, o, mu', e1, q⟩ := z
    have e' : (Out.nx (rh.set i (some d)), mu1) = (o, mu') := Option.some.inj e1
    cases e'
    exact q th1 _ H1 (Fw.refl r1.ok) (r1.set i hd))))
end
end Eb

/-! Eb: operators on data. -/
namespace Eb
open PySem L2
open Evl (Ex ex_l ex_t)
def lstOf (mu : Mu) : D → Option (List D)
  | .lst ds => some ds
  | .cel k => match mu[k]? with
    | some (.lst ds) => some ds
    | _ => none
  | _ => none
section
variable {X : Cx} {g : Gam} {th : Th} {mu : Mu} {H : Hp} {d : D} {v : V} {ds : List D}
theorem lst_at (o : Ok g th mu H) (h : Rp g th (Gz th mu H) d v) (e : lstOf mu d = some ds) : ∃ a xs, v = .ref a ∧ H a = some (.lst xs) ∧ RpL g th (Gz th mu H) ds xs := by
  unfold lstOf at e
  split at e
  · have e' := Option.some.inj e
    subst e'
    obtain ⟨a, xs, e1, e2, e3⟩ := h
    exact ⟨a, xs, e1, Gz_sub _ _ e2, e3⟩
  · split at e
    · rename_i hk
      have e' := Option.some.inj e
      subst e'
      obtain ⟨a, e1, e2⟩ := h
      obtain ⟨xs, q1, q2⟩ := o.cel _ a _ e2 hk
      exact ⟨a, xs, e1, q1, q2⟩
    · cases e
  · cases e
theorem rp_int {i : Int} : Rp g th (Gz th mu H) (.int i) (.int i) := rfl
theorem rp_bl {b : Bool} : Rp g th (Gz th mu H) (.bl b) (.bl b) := rfl
theorem rp_str {x : Str} : Rp g th (Gz th mu H) (.str x) (.str x) := rfl
def lim (n : Nat) (d : D) : Option D := if n ≤ 100000 then some d else none
theorem lim_eq {n : Nat} {d e : D} (h : lim n d = some e) : e = d ∧ n ≤ 100000 := by
  unfold lim at h
  split at h
  · exact ⟨(Option.some.inj h).symm, by assumption⟩
  · cases h
def addD (mu : Mu) : D → D → Option D
  | .int i, .int j => some (.int (i + j))
  | .str a, .str b => lim (a.length + b.length) (.str (a ++ b))
  | .tup a, .tup b => lim (a.length + b.length) (.tup (a ++ b))
  | x, y => match lstOf mu x, lstOf mu y with
    | some a, some b => lim (a.length + b.length) (.lst (a ++ b))
    | _, _ => none
theorem om_add (hK : X.K = g.K) : OpM X g (binaryOp .Add) addD := by
  refine .mk' (op_add.or (op_add_str.or (op_catA.or op_cat))) fun th mu H x y v u d o hx hy e Q q => ?_
  unfold addD at e
  split at e
  · have e' := Option.some.inj e
    subst e'
    exact .inl ⟨_, _, hx, hy, q _ H (fun _ _ z => z) rfl⟩
  · rename_i a b
    obtain ⟨rfl, hl⟩ := lim_eq e
    exact .inr (.inl ⟨_, _, hx, hy, Evl.sz_of hl, q _ H (fun _ _ z => z) rfl⟩)
  · rename_i a b
    obtain ⟨rfl, hl⟩ := lim_eq e
    obtain ⟨a1, xs, rfl, s1, r1, t1⟩ := sqT_of hx
    obtain ⟨a2, ys, rfl, s2, r2, t2⟩ := sqT_of hy
    refine .inr (.inr (.inl ⟨a1, a2, xs, ys, rfl, rfl, by rw [hK]; exact s1, by rw [hK]; exact s2, Evl.sz_of (by rw [r1.length, r2.length]; exact hl), fun h0 => ?_, fun h0 h1 => ?_, fun h0 h1 p hp => ?_⟩))
    · subst h0
      have : a = [] := List.eq_nil_of_length_eq_zero (by have := r1.length; simpa using this.symm)
      subst this
      exact q _ H (fun _ _ z => z) hy
    · subst h1
      have : b = [] := List.eq_nil_of_length_eq_zero (by have := r2.length; simpa using this.symm)
      subst this
      rw [List.append_nil] at q
      exact q _ H (fun _ _ z => z) hx
    · exact q _ _ (Evl.Ex.new hp) (rp_newTup o hp (RpL.append r1 r2))
  · split at e
    · rename_i a b ha hb
      obtain ⟨rfl, hl⟩ := lim_eq e
      obtain ⟨a1, xs, rfl, s1, r1⟩ := lst_at o hx ha
      obtain ⟨a2, ys, rfl, s2, r2⟩ := lst_at o hy hb
      exact .inr (.inr (.inr ⟨a1, a2, xs, ys, rfl, rfl, s1, s2, Evl.sz_of (by rw [r1.length, r2.length]; exact hl), fun p hp => q _ _ (Evl.Ex.new hp) (rp_newLst o hp (RpL.append r1 r2))⟩))
    · cases e
def subD (_ : Mu) : D → D → Option D
  | .int i, .int j => some (.int (i - j))
  | _, _ => none
theorem om_sub : OpM X g (binaryOp .Sub) subD := by
  refine .mk' op_sub fun th mu H x y v u d o hx hy e Q q => ?_
  unfold subD at e
  split at e
  · have e' := Option.some.inj e
    subst e'
    exact ⟨_, _, hx, hy, q _ H (fun _ _ z => z) rfl⟩
  · cases e
/-- a product of ints, one of them small; a list so many times; a tuple so many times, two at least -/
def smallI (i : Int) : Bool := decide (-1000000000 ≤ i ∧ i ≤ 1000000000)
def mulD (mu : Mu) : D → D → Option D
  | .int i, .int j => if smallI i || smallI j then some (.int (i * j)) else none
  | .tup a, .int k => if a.length ≤ 1000 ∧ 2 ≤ k ∧ k ≤ 1000 ∧ a.length ≠ 0 then some (.tup (List.replicate k.toNat a).flatten) else none
  | x, .int k => match lstOf mu x with
    | some a => if a.length ≤ 100 ∧ 0 ≤ k ∧ k ≤ 1000 then some (.lst (List.replicate k.toNat a).flatten) else none
    | none => none
  | _, _ => none
theorem RpL.rep {G : Hp} {ds : List D} {xs : List V} (h : RpL g th G ds xs) : ∀ n : Nat, RpL g th G (List.replicate n ds).flatten (List.replicate n xs).flatten
  | 0 => rfl
  | n + 1 => by
    rw [List.replicate_succ, List.replicate_succ, List.flatten_cons, List.flatten_cons]
    exact h.append (RpL.rep h n)
theorem om_mul (hK : X.K = g.K) : OpM X g (binaryOp .Mult) mulD := by
  refine .mk' (op_mul.or (op_repT.or op_rep)) fun th mu H x y v u d o hx hy e Q q => ?_
  unfold mulD at e
  split at e
  · rename_i i j
    split at e
    · rename_i hs
      have e' := Option.some.inj e
      subst e'
      refine .inl ⟨_, _, hx, hy, ?_, q _ H (fun _ _ z => z) rfl⟩
      rw [Bool.or_eq_true] at hs
      unfold smallI at hs
      rcases hs with hs | hs
      · have := of_decide_eq_true hs; exact .inl (by omega)
      · have := of_decide_eq_true hs; exact .inr (by omega)
    · cases e
  · rename_i a k
    split at e
    · rename_i hs
      have e' := Option.some.inj e
      subst e'
      obtain ⟨a1, xs, rfl, s1, r1, t1⟩ := sqT_of hx
      have hl := r1.length
      refine .inr (.inl ⟨a1, k, xs, rfl, hy, by rw [hK]; exact s1, fun z => hs.2.2.2 (by rw [z] at hl; simpa using hl.symm), hs.2.1, hs.2.2.1, by omega, fun p hp => ?_⟩)
      exact q _ _ (Evl.Ex.new hp) (rp_newTup o hp (RpL.rep r1 _))
    · cases e
  · rename_i k _ _
    split at e
    · rename_i a ha
      split at e
      · rename_i hs
        have e' := Option.some.inj e
        subst e'
        obtain ⟨a1, xs, rfl, s1, r1⟩ := lst_at o hx ha
        have hl := r1.length
        refine .inr (.inr ⟨a1, k, xs, rfl, hy, s1, by omega, by omega, Evl.sz_of ?_, fun p hp => q _ _ (Evl.Ex.new hp) (rp_newLst o hp (RpL.rep r1 _))⟩)
        have h1 : xs.length ≤ 100 := by omega
        have h2 : k.toNat ≤ 1000 := by omega
        exact Nat.le_trans (Nat.mul_le_mul h1 h2) (by decide)
      · cases e
    · cases e
  · cases e
def modD (_ : Mu) : D → D → Option D
  | .int i, .int j => if 0 < j then some (.int (i % j)) else none
  | _, _ => none
theorem om_mod : OpM X g (binaryOp .Mod) modD := by
  refine .mk' op_mod fun th mu H x y v u d o hx hy e Q q => ?_
  unfold modD at e
  split at e
  · split at e
    · rename_i hj
      have e' := Option.some.inj e
      subst e'
      exact ⟨_, _, hx, hy, hj, q _ H (fun _ _ z => z) rfl⟩
    · cases e
  · cases e
def fdivD (_ : Mu) : D → D → Option D
  | .int i, .int j => if 0 < j ∧ j < 1000000000 then some (.int (i / j)) else none
  | _, _ => none
theorem om_fdiv : OpM X g (binaryOp .FloorDiv) fdivD := by
  refine .mk' op_fdiv fun th mu H x y v u d o hx hy e Q q => ?_
  unfold fdivD at e
  split at e
  · split at e
    · rename_i hj
      have e' := Option.some.inj e
      subst e'
      exact ⟨_, _, hx, hy, ⟨hj.1, by omega⟩, q _ H (fun _ _ z => z) rfl⟩
    · cases e
  · cases e
def powD (_ : Mu) : D → D → Option D
  | .int i, .int j => if 0 ≤ j ∧ j ≤ 1000000 ∧ i.natAbs < 2 ^ 64 then some (.int (i ^ j.toNat)) else none
  | _, _ => none
theorem om_pow : OpM X g (binaryOp .Pow) powD := by
  refine .mk' op_pow fun th mu H x y v u d o hx hy e Q q => ?_
  unfold powD at e
  split at e
  · split at e
    · rename_i hj
      have e' := Option.some.inj e
      subst e'
      exact ⟨_, _, hx, hy, hj, q _ H (fun _ _ z => z) rfl⟩
    · cases e
  · cases e
/-! order of ints -/
def cmpI (p : Int → Int → Bool) (_ : Mu) : D → D → Option D
  | .int i, .int j => some (.bl (p i j))
  | _, _ => none
theorem om_cmpI {op : CmpOp} {p : Int → Int → Bool} (h : OpR X (compareOp op) (rI0 fun i j => .bl (p i j))) : OpM X g (compareOp op) (cmpI p) := by
  refine .mk' h fun th mu H x y v u d o hx hy e Q q => ?_
  unfold cmpI at e
  split at e
  · have e' := Option.some.inj e
    subst e'
    exact ⟨_, _, hx, hy, q _ H (fun _ _ z => z) rfl⟩
  · cases e
abbrev ltD : Mu → D → D → Option D := cmpI fun i j => decide (i < j)
abbrev leD : Mu → D → D → Option D := cmpI fun i j => decide (i ≤ j)
abbrev gtD : Mu → D → D → Option D := cmpI fun i j => decide (j < i)
abbrev geD : Mu → D → D → Option D := cmpI fun i j => decide (j ≤ i)
theorem om_lt : OpM X g (compareOp .Lt) ltD := om_cmpI op_lt
theorem om_le : OpM X g (compareOp .LtE) leD := om_cmpI op_le
theorem om_gt : OpM X g (compareOp .Gt) gtD := om_cmpI op_gt
theorem om_ge : OpM X g (compareOp .GtE) geD := om_cmpI op_ge
/-! == and != of data -/
def allM (f : D → Option PyData) : List D → Option (List PyData)
  | [] => some []
  | d :: ds => match f d with
    | some p => (allM f ds).map (p :: ·)
    | none => none
def pyD (mu : Mu) : Nat → D → Option PyData
  | 0, _ => none
  | _ + 1, .non => some .none
  | _ + 1, .bl b => some (.bool b)
  | _ + 1, .int i => some (.int i)
  | _ + 1, .str x => some (.str x)
  | n + 1, .tup ds => (allM (pyD mu n) ds).map .tuple
  | n + 1, .lst ds => (allM (pyD mu n) ds).map .list
  | n + 1, .cel k => match mu[k]? with
    | some (.lst ds) => (allM (pyD mu n) ds).map .list
    | _ => none
  | _ + 1, _ => none
theorem allM_dp {K : PySem.W.Frag} {f : D → Option PyData} {G : Hp} (hf : ∀ d v p, Rp g th G d v → f d = some p → Dp K H v p) : ∀ (ds : List D) (vs : List V) (ps : List PyData), RpL g th G ds vs → allM f ds = some ps → DpAll K H vs ps
  | [], vs, ps, h, e => by
    rw [show vs = [] from h]
    have e' := Option.some.inj e
    subst e'
    exact .nil
  | d :: ds, vs, ps, h, e => by
    obtain ⟨v, r, rfl, h1, h2⟩ := h
    unfold allM at e
    cases hd : f d with
    | none => rw [hd] at e; cases e
    | some p =>
      rw [hd] at e
      cases hr : allM f ds with
      | none => rw [hr] at e; cases e
      | some qs =>
        rw [hr] at e
        have e' := Option.some.inj e
        subst e'
        exact .cons (hf d v p h1 hd) (allM_dp hf ds r qs h2 hr)
theorem pyD_dp (o : Ok g th mu H) : ∀ (n : Nat) (d : D) (v : V) (p : PyData), Rp g th (Gz th mu H) d v → pyD mu n d = some p → Dp g.K H v p
  | 0, d, v, p, _, e => by cases e
  | n + 1, d, v, p, h, e => by
    cases d with
    | non => cases (Option.some.inj e); rw [show v = .non from h]; exact .non
    | bl b => cases (Option.some.inj e); rw [show v = .bl b from h]; exact .bl b
    | int i => cases (Option.some.inj e); rw [show v = .int i from h]; exact .int i
    | str x => cases (Option.some.inj e); rw [show v = .str x from h]; exact .str x
    | tup ds =>
      have e : (allM (pyD mu n) ds).map .tuple = some p := e
      cases ha : allM (pyD mu n) ds with
      | none => rw [ha] at e; cases e
      | some ps =>
        rw [ha] at e
        cases (Option.some.inj e)
        obtain ⟨a, xs, rfl, s1, r1, _⟩ := sqT_of h
        exact .tup s1 (allM_dp (pyD_dp o n) ds xs ps r1 ha)
    | lst ds =>
      have e : (allM (pyD mu n) ds).map .list = some p := e
      cases ha : allM (pyD mu n) ds with
      | none => rw [ha] at e; cases e
      | some ps =>
        rw [ha] at e
        cases (Option.some.inj e)
        obtain ⟨a, xs, rfl, s1, r1⟩ := lst_at (d := .lst ds) o h rfl
        exact .lst (SqL.of s1) (allM_dp (pyD_dp o n) ds xs ps r1 ha)
    | cel k =>
      unfold pyD at e
      split at e
      · rename_i ds hk
        cases ha : allM (pyD mu n) ds with
        | none => rw [ha] at e; cases e
        | some ps =>
          rw [ha] at e
          cases (Option.some.inj e)
          obtain ⟨a, xs, rfl, s1, r1⟩ := lst_at (d := .cel k) (ds := ds) o h (by show (match mu[k]? with | some (.lst ds) => some ds | _ => none) = some ds; rw [hk])
          exact .lst (SqL.of s1) (allM_dp (pyD_dp o n) ds xs ps r1 ha)
      · cases e
    | _ => cases e
/-- both sides as data, compared -/
def eqB (mu : Mu) (x y : D) : Option Bool := match pyD mu 12 x, pyD mu 12 y with
  | some p, some q => if SeqAt.shaped p && SeqAt.shaped q then some (PyData.eqv p q) else none
  | _, _ => none
def eqD (mu : Mu) (x y : D) : Option D := (eqB mu x y).map .bl
def neD (mu : Mu) (x y : D) : Option D := (eqB mu x y).map fun b => .bl (!b)
theorem eqB_dp {x y : D} {v u : V} {b : Bool} (o : Ok g th mu H) (hx : Rp g th (Gz th mu H) x v) (hy : Rp g th (Gz th mu H) y u) (e : eqB mu x y = some b) : ∃ p q, Dp g.K H v p ∧ Dp g.K H u q ∧ SeqAt.shaped p = true ∧ SeqAt.shaped q = true ∧ PyData.eqv p q = b := by
  unfold eqB at e
  split at e
  · rename_i p q hp hq
    split at e
    · rename_i hs
      rw [Bool.and_eq_true] at hs
      exact ⟨p, q, pyD_dp o 12 x v p hx hp, pyD_dp o 12 y u q hy hq, hs.1, hs.2, Option.some.inj e⟩
    · cases e
  · cases e
theorem om_eq (hK : X.K = g.K) (hu : X.A.units + 64 < cLine) : OpM X g (compareOp .Eq) eqD := by
  refine .mk' (op_eqD hu) fun th mu H x y v u d o hx hy e Q q => ?_
  unfold eqD at e
  cases hb : eqB mu x y with
  | none => rw [hb] at e; cases e
  | some b =>
    rw [hb] at e
    cases (Option.some.inj e)
    obtain ⟨p, r, h1, h2, h3, h4, h5⟩ := eqB_dp o hx hy hb
    exact ⟨p, r, by rw [hK]; exact h1, by rw [hK]; exact h2, h3, h4, by rw [h5]; exact q _ H (fun _ _ z => z) rfl⟩
theorem om_ne (hK : X.K = g.K) (hu : X.A.units + 64 < cLine) : OpM X g (compareOp .NotEq) neD := by
  refine .mk' (op_neD hu) fun th mu H x y v u d o hx hy e Q q => ?_
  unfold neD at e
  cases hb : eqB mu x y with
  | none => rw [hb] at e; cases e
  | some b =>
    rw [hb] at e
    cases (Option.some.inj e)
    obtain ⟨p, r, h1, h2, h3, h4, h5⟩ := eqB_dp o hx hy hb
    exact ⟨p, r, by rw [hK]; exact h1, by rw [hK]; exact h2, h3, h4, by rw [h5]; exact q _ H (fun _ _ z => z) rfl⟩
/-! is None, is True -/
def nonB : D → Bool
  | .non => true
  | _ => false
theorem rp_non {G : Hp} {d : D} {v : V} (h : Rp g th G d v) : decide (v = .non) = nonB d := by
  cases d with
  | non => rw [show v = .non from h]; rfl
  | bl b => rw [show v = .bl b from h]; rfl
  | int b => rw [show v = .int b from h]; rfl
  | str b => rw [show v = .str b from h]; rfl
  | tup ds => obtain ⟨a, xs, e, _⟩ := h; rw [e]; rfl
  | lst ds => obtain ⟨a, xs, e, _⟩ := h; rw [e]; rfl
  | ins c ds => obtain ⟨a, dx, ys, xs, e, _⟩ := h; rw [e]; rfl
  | set ns => obtain ⟨a, S, e, _⟩ := h; rw [e]; rfl
  | cel k => obtain ⟨a, e, _⟩ := h; rw [e]; rfl
  | scr ns => obtain ⟨a, e, _⟩ := h; rw [e]; rfl
  | ty n => rw [show v = .ty n from h]; rfl
  | cls c => rw [show v = .ref (g.cls c) from h]; rfl
  | dic ks ds => obtain ⟨a, o, xs, e, _⟩ := h; rw [e]; rfl
  | exn c fs => obtain ⟨a, dd, _, e, _⟩ := h; rw [e]; rfl
def isD (_ : Mu) : D → D → Option D
  | .bl a, .bl b => some (.bl (decide (a = b)))
  | x, .non => some (.bl (nonB x))
  | _, _ => none
def isnotD (_ : Mu) : D → D → Option D
  | .bl a, .bl b => some (.bl (!decide (a = b)))
  | x, .non => some (.bl (!nonB x))
  | _, _ => none
theorem om_is : OpM X g (compareOp .Is) isD := by
  refine .mk' (op_isN.or op_isBl) fun th mu H x y v u d o hx hy e Q q => ?_
  unfold isD at e
  split at e
  · cases (Option.some.inj e)
    exact .inr ⟨_, _, hx, hy, q _ H (fun _ _ z => z) rfl⟩
  · cases (Option.some.inj e)
    exact .inl ⟨hy, by rw [rp_non hx]; exact q _ H (fun _ _ z => z) rfl⟩
  · cases e
theorem om_isnot : OpM X g (compareOp .IsNot) isnotD := by
  refine .mk' (op_notN.or op_notBl) fun th mu H x y v u d o hx hy e Q q => ?_
  unfold isnotD at e
  split at e
  · cases (Option.some.inj e)
    exact .inr ⟨_, _, hx, hy, q _ H (fun _ _ z => z) rfl⟩
  · cases (Option.some.inj e)
    exact .inl ⟨hy, by rw [rp_non hx]; exact q _ H (fun _ _ z => z) rfl⟩
  · cases e
/-! in, not in: a list or tuple of flat things -/
def vOf : D → Option V
  | .non => some .non
  | .bl b => some (.bl b)
  | .int i => some (.int i)
  | .str x => some (.str x)
  | _ => none
def vsOf : List D → Option (List V)
  | [] => some []
  | d :: ds => match vOf d with
    | some v => (vsOf ds).map (v :: ·)
    | none => none
theorem vOf_eq {G : Hp} {d : D} {v w : V} (h : Rp g th G d v) (e : vOf d = some w) : v = w ∧ flatV w = true := by
  cases d with
  | non => cases (Option.some.inj e); exact ⟨h, rfl⟩
  | bl b => cases (Option.some.inj e); exact ⟨h, rfl⟩
  | int b => cases (Option.some.inj e); exact ⟨h, rfl⟩
  | str b => cases (Option.some.inj e); exact ⟨h, rfl⟩
  | _ => cases e
theorem vsOf_eq {G : Hp} : ∀ {ds : List D} {vs ws : List V}, RpL g th G ds vs → vsOf ds = some ws → vs = ws ∧ ws.all flatV = true
  | [], vs, ws, h, e => by
    cases (Option.some.inj e)
    exact ⟨h, rfl⟩
  | d :: ds, vs, ws, h, e => by
    obtain ⟨v, r, rfl, h1, h2⟩ := h
    unfold vsOf at e
    cases hd : vOf d with
    | none => rw [hd] at e; cases e
    | some w =>
      rw [hd] at e
      cases hr : vsOf ds with
      | none => rw [hr] at e; cases e
      | some us =>
        rw [hr] at e
        cases (Option.some.inj e)
        obtain ⟨rfl, f1⟩ := vOf_eq h1 hd
        obtain ⟨rfl, f2⟩ := vsOf_eq h2 hr
        exact ⟨rfl, by rw [List.all_cons, f1, f2]; rfl⟩
def inB (mu : Mu) (x y : D) : Option Bool := match vOf x, (match y with | .tup ds => some ds | y => lstOf mu y) with
  | some v, some ds => (vsOf ds).map fun vs => inV v vs
  | _, _ => none
def inD (mu : Mu) (x y : D) : Option D := (inB mu x y).map .bl
def notinD (mu : Mu) (x y : D) : Option D := (inB mu x y).map fun b => .bl (!b)
theorem inB_at {x y : D} {v u : V} {b : Bool} (o : Ok g th mu H) (hx : Rp g th (Gz th mu H) x v) (hy : Rp g th (Gz th mu H) y u) (e : inB mu x y = some b) : ∃ p xs, u = .ref p ∧ (SqL g.K H p xs ∨ SqT g.K H p xs) ∧ flatV v = true ∧ xs.all flatV = true ∧ inV v xs = b := by
  unfold inB at e
  split at e
  · rename_i w ds hw hds
    cases hv : vsOf ds with
    | none => rw [hv] at e; cases e
    | some vs =>
      rw [hv] at e
      have e' : inV w vs = b := Option.some.inj e
      obtain ⟨rfl, f1⟩ := vOf_eq hx hw
      split at hds
      · cases (Option.some.inj hds)
        obtain ⟨a, xs, rfl, s1, r1, _⟩ := sqT_of hy
        obtain ⟨rfl, f2⟩ := vsOf_eq r1 hv
        exact ⟨a, xs, rfl, .inr s1, f1, f2, e'⟩
      · obtain ⟨a, xs, rfl, s1, r1⟩ := lst_at o hy hds
        obtain ⟨rfl, f2⟩ := vsOf_eq r1 hv
        exact ⟨a, xs, rfl, .inl (SqL.of s1), f1, f2, e'⟩
  · cases e
theorem om_in (hK : X.K = g.K) : OpM X g (compareOp .In) inD := by
  refine .mk' op_in_seq fun th mu H x y v u d o hx hy e Q q => ?_
  unfold inD at e
  cases hb : inB mu x y with
  | none => rw [hb] at e; cases e
  | some b =>
    rw [hb] at e
    cases (Option.some.inj e)
    obtain ⟨p, xs, rfl, s1, f1, f2, f3⟩ := inB_at o hx hy hb
    exact ⟨p, xs, rfl, by rw [hK]; exact s1, f1, f2, by rw [f3]; exact q _ H (fun _ _ z => z) rfl⟩
theorem om_notin (hK : X.K = g.K) : OpM X g (compareOp .NotIn) notinD := by
  refine .mk' op_notIn_seq fun th mu H x y v u d o hx hy e Q q => ?_
  unfold notinD at e
  cases hb : inB mu x y with
  | none => rw [hb] at e; cases e
  | some b =>
    rw [hb] at e
    cases (Option.some.inj e)
    obtain ⟨p, xs, rfl, s1, f1, f2, f3⟩ := inB_at o hx hy hb
    exact ⟨p, xs, rfl, by rw [hK]; exact s1, f1, f2, by rw [f3]; exact q _ H (fun _ _ z => z) rfl⟩
/-- one sign in a text -/
def inS (_ : Mu) : D → D → Option D
  | .str x, .str z => match x.cps.toList with
    | [c] => some (.bl (decide (c ∈ z.cps.toList)))
    | _ => none
  | _, _ => none
def notinS (_ : Mu) : D → D → Option D
  | .str x, .str z => match x.cps.toList with
    | [c] => some (.bl (!decide (c ∈ z.cps.toList)))
    | _ => none
  | _, _ => none
theorem one_sign {x : Str} {c : Nat} (h : x.cps.toList = [c]) : x = ⟨#[c]⟩ := by
  obtain ⟨a⟩ := x
  have : a = #[c] := by
    apply Array.toList_inj.mp
    simpa using h
  rw [this]
theorem om_inS : OpM X g (compareOp .In) inS := by
  refine .mk' op_in_sign fun th mu H x y v u d o hx hy e Q q => ?_
  unfold inS at e
  split at e
  · split at e
    · rename_i c hc
      cases (Option.some.inj e)
      rw [one_sign hc] at hx
      exact ⟨_, _, hx, hy, q _ H (fun _ _ z => z) rfl⟩
    · cases e
  · cases e
theorem om_notinS : OpM X g (compareOp .NotIn) notinS := by
  refine .mk' op_notIn_sign fun th mu H x y v u d o hx hy e Q q => ?_
  unfold notinS at e
  split at e
  · split at e
    · rename_i c hc
      cases (Option.some.inj e)
      rw [one_sign hc] at hx
      exact ⟨_, _, hx, hy, q _ H (fun _ _ z => z) rfl⟩
    · cases e
  · cases e
end
end Eb

/-! Eb: items, parts, built-ins by name, methods of built-in types, stores by place. -/
namespace Eb
open PySem L2
open Evl (Ex ex_l ex_t)
section
variable {X : Cx} {g : Gam} {th : Th} {mu : Mu} {H : Hp} {d : D} {v : V} {ds : List D}
theorem RpL.atI {G : Hp} {ds : List D} {xs : List V} {i : Int} {d : D} (h : RpL g th G ds xs) (e : atI ds i = some d) : ∃ v, atI xs i = some v ∧ Rp g th G d v := by
  unfold L2.atI at e ⊢
  rw [h.length]
  cases hj : ixN ds.length i with
  | none => rw [hj] at e; cases e
  | some j =>
    rw [hj] at e
    obtain ⟨v, e1, e2⟩ := h.get (i := j) e
    exact ⟨v, e1, e2⟩
/-- a plain subscript -/
structure IxM (X : Cx) (g : Gam) (f : Mu → D → D → Option D) : Prop where
  ex : ∃ r, IxR X r ∧ OpImp g r f
def ixD (mu : Mu) : D → D → Option D
  | .tup ds, .int i => atI ds i
  | .scr ns, .int i => (atI ns i).map .int
  | .str z, .int i => if z.length ≤ 100000 then (atI z.cps.toList i).map fun c => .str ⟨#[c]⟩ else none
  | x, .int i => match lstOf mu x with
    | some ds => atI ds i
    | none => none
  | _, _ => none
theorem im_ix (hK : X.K = g.K) : IxM X g ixD := by
  refine ⟨_, ix_seq, fun th mu H x y v u d o hx hy e Q q => ?_⟩
  rw [hK]
  unfold ixD at e
  split at e
  · rename_i ds i
    obtain ⟨a, xs, rfl, s1, r1, _⟩ := sqT_of hx
    obtain ⟨w, e1, e2⟩ := r1.atI e
    exact .inr (.inl ⟨a, xs, i, w, rfl, hy, s1, e1, q w H (fun _ _ z => z) e2⟩)
  · rename_i ns i
    obtain ⟨a, rfl, s1⟩ := hx
    cases hn : atI ns i with
    | none => rw [hn] at e; cases e
    | some n =>
      rw [hn] at e
      cases (Option.some.inj e)
      refine .inl ⟨a, _, i, .int n, rfl, hy, ex_l Gz_sub s1, ?_, q _ H (fun _ _ z => z) rfl⟩
      unfold L2.atI at hn ⊢
      rw [List.length_map]
      cases hj : ixN ns.length i with
      | none => rw [hj] at hn; cases hn
      | some j =>
        rw [hj] at hn
        have hn : ns[j]? = some n := hn
        show (ns.map V.int)[j]? = _
        rw [List.getElem?_map, hn]; rfl
  · rename_i z i
    split at e
    · rename_i hz
      cases hn : atI z.cps.toList i with
      | none => rw [hn] at e; cases e
      | some c =>
        rw [hn] at e
        cases (Option.some.inj e)
        exact .inr (.inr ⟨z, i, c, hx, hy, Evl.sz_of hz, hn, q _ H (fun _ _ z => z) rfl⟩)
    · cases e
  · rename_i i _ _ _
    split at e
    · rename_i ds hl
      obtain ⟨a, xs, rfl, s1, r1⟩ := lst_at o hx hl
      obtain ⟨w, e1, e2⟩ := r1.atI e
      exact .inl ⟨a, xs, i, w, rfl, hy, SqL.of s1, e1, q w H (fun _ _ z => z) e2⟩
    · cases e
  · cases e
/-! parts -/
def cutL {α : Type} (xs : List α) (lo hi : Option Int) : List α := (xs.drop (HT.sIx xs.length 0 lo)).take (HT.sIx xs.length xs.length hi - HT.sIx xs.length 0 lo)
theorem RpL.cut {G : Hp} {ds : List D} {xs : List V} {lo hi : Option Int} (h : RpL g th G ds xs) : RpL g th G (cutL ds lo hi) (cutV xs lo hi) := by
  unfold cutL cutV
  rw [h.length]
  exact (h.drop _).take _
def slD (mu : Mu) (x : D) (lo hi : Option Int) : Option D := match x with
  | .tup ds => some (.tup (cutL ds lo hi))
  | .str z => if z.length ≤ 100000 then some (.str (cutS z lo hi)) else none
  | x => match lstOf mu x with
    | some ds => some (.lst (cutL ds lo hi))
    | none => none
theorem slD_cases {x : D} {lo hi : Option Int} (e : slD mu x lo hi = some d) : (∃ ds, x = .tup ds ∧ d = .tup (cutL ds lo hi)) ∨ (∃ z, x = .str z ∧ z.length ≤ 100000 ∧ d = .str (cutS z lo hi)) ∨ ∃ ds, lstOf mu x = some ds ∧ d = .lst (cutL ds lo hi) := by
  unfold slD at e
  split at e
  · exact .inl ⟨_, rfl, (Option.some.inj e).symm⟩
  · split at e
    · exact .inr (.inl ⟨_, rfl, by assumption, (Option.some.inj e).symm⟩)
    · cases e
  · split at e
    · exact .inr (.inr ⟨_, by assumption, (Option.some.inj e).symm⟩)
    · cases e
def canO (g : Gam) (W : WX) (m : M (Option Int)) : TO := can g W (fun _ _ a b => a = b) m
def mNoP : M (Option Int) := retM none
def mPart (ma : ME) : M (Option Int) := bindM ma fun d => lift fun _ => match d with
  | .int i => some (some i)
  | _ => none
def mSl (ma : ME) (ml mh : M (Option Int)) : ME := bindM ma fun x => bindM ml fun lo => bindM mh fun hi => lift fun mu => slD mu x lo hi
end
section
variable {X : Cx} {g : Gam} {W : WX} {e a b : Expr} {pos p2 : Pos} {ma mb : ME} {ml mh : M (Option Int)} {lo hi : Option Expr}
theorem pm_ix (hK : X.K = g.K) (ha : PE X a (canE g W ma)) (hb : PE X b (canE g W mb)) (hs : PlainIx b := by exact fun _ _ => rfl) : PE X (.Subscript a b pos) (canE g W (mOp ixD ma mb)) := by
  obtain ⟨r, h1, h2⟩ := (im_ix (X := X) (g := g) hK).ex
  exact PEimp (pe_ix h1 ha hb hs) fun _ _ _ => can_op h2
theorem POimp {e : Option Expr} {t t' : TO} (h : PO X e t) (q : ∀ σ H Q, t' σ H Q → t σ H Q) : PO X e t' := ⟨fun pins s σ H Q I hw => h.run pins s σ H Q I (q _ _ _ hw)⟩
theorem pmo_none : PO X none (canO g W mNoP) := POimp po_none fun σ H Q ⟨rh, mu, th, r, h⟩ => canAt_ret r h th none H (Fw.refl r.ok) rfl
theorem pmo_some (h : PE X e (canE g W ma)) : PO X (some e) (canO g W (mPart ma)) := POimp (po_some h) fun σ H Q h => (can_bind (R := RE g) h).imp fun x H1 ⟨d, rh, mu1, th1, hd, r1, h1⟩ => by
  obtain ⟨o, e1, q⟩ := canAt_lift r1 h1
  split at e1
  · rename_i i
    cases (Option.some.inj e1)
    exact ⟨i, hd, q th1 (some i) H1 (Fw.refl r1.ok) rfl⟩
  · cases e1
theorem pm_slice (hK : X.K = g.K) (he : PE X e (canE g W ma)) (hl : PO X lo (canO g W ml)) (hu : PO X hi (canO g W mh)) : PE X (.Subscript e (.Slice lo hi none p2) pos) (canE g W (mSl ma ml mh)) := by
  refine PEimp (pe_slice (sl_list.or (sl_tupA.or sl_str)) he hl hu) fun σ H Q h => ?_
  refine (can_bind (R := RE g) h).imp fun x H1 ⟨d, rh, mu1, th1, hd, r1, h1⟩ => ⟨rh, mu1, th1, r1, ?_⟩
  refine (canAt_bind (R := fun _ _ a b => a = b) r1 h1).imp fun l H2 ⟨l', mu2, th2, f2, hl, r2, h2⟩ => ⟨rh, mu2, th2, r2, ?_⟩
  refine (canAt_bind (R := fun _ _ a b => a = b) r2 h2).imp fun u H3 ⟨u', mu3, th3, f3, hu, r3, h3⟩ => ?_
  subst hl hu
  obtain ⟨w, e1, q⟩ := canAt_lift r3 h3
  have hd3 := hd.mono (f2.trans f3).pf (f2.trans f3).ex
  rw [hK]
  rcases slD_cases e1 with ⟨ds, rfl, rfl⟩ | ⟨z, rfl, hz, rfl⟩ | ⟨ds, hl, rfl⟩
  · obtain ⟨a, xs, rfl, s1, rr, t1⟩ := sqT_of hd3
    refine .inr (.inl ⟨a, xs, rfl, s1, fun hw => ?_, fun hw p hp => q th3 _ _ (Fw.heap r3.ok (Evl.Ex.new hp)) (rp_newTup r3.ok hp rr.cut)⟩)
    have ec : cutL ds l' u' = ds := by
      unfold cutL
      rw [← rr.length, hw.1, hw.2, List.drop_zero, Nat.sub_zero]
      exact List.take_of_length_le (by rw [rr.length]; exact Nat.le_refl _)
    rw [ec] at q
    exact q th3 _ H3 (Fw.refl r3.ok) hd3
  · exact .inr (.inr ⟨z, hd3, Evl.sz_of hz, q th3 _ H3 (Fw.refl r3.ok) rfl⟩)
  · obtain ⟨a, xs, rfl, s1, rr⟩ := lst_at r3.ok hd3 hl
    exact .inl ⟨a, xs, rfl, SqL.of s1, fun p hp => q th3 _ _ (Fw.heap r3.ok (Evl.Ex.new hp)) (rp_newLst r3.ok hp rr.cut)⟩
/-! one-place operators -/
def mNeg (ma : ME) : ME := bindM ma fun d => lift fun _ => match d with
  | .int i => some (.int (-i))
  | _ => none
theorem pm_neg (ha : PE X a (canE g W ma)) : PE X (.UnaryOp .USub a pos) (canE g W (mNeg ma)) :=
  PEimp (pe_un un_neg ha) fun σ H Q h => (can_bind (R := RE g) h).imp fun x H1 ⟨d, rh, mu1, th1, hd, r1, h1⟩ => by
    obtain ⟨w, e1, q⟩ := canAt_lift r1 h1
    split at e1
    · cases (Option.some.inj e1)
      exact ⟨_, hd, q th1 _ H1 (Fw.refl r1.ok) rfl⟩
    · cases e1
end
/-! ### built-ins by name -/
abbrev CallF := List D → Mu → Option (D × Mu)
def pureF (h : Mu → List D → Option D) : CallF := fun ds mu => (h mu ds).map fun d => (d, mu)
structure CallM (X : Cx) (g : Gam) (f : Value) (h : CallF) : Prop where
  ex : ∃ r, CallR X f r ∧ ∀ th mu H ds vs d mu', Ok g th mu H → RpL g th (Gz th mu H) ds vs → h ds mu = some (d, mu') → ∀ Q : VK, (∀ th' w H', Fw g th mu H th' mu' H' → Rp g th' (Gz th' mu' H') d w → Q w H') → r vs H Q
def mCB (h : CallF) (mr : M (List D)) : ME := bindM mr fun ds _ mu => (h ds mu).map fun p => (.ok p.1, p.2)
theorem CallR.or {X : Cx} {f : Value} {r r' : List V → Hp → VK → Prop} (h : CallR X f r) (h' : CallR X f r') : CallR X f (fun vs H Q => r vs H Q ∨ r' vs H Q) := fun pins s σ H xs us Q I rs q =>
  q.elim (h pins s σ H xs us Q I rs) (h' pins s σ H xs us Q I rs)
theorem CallM.or {X : Cx} {g : Gam} {f : Value} {h1 h2 h : CallF} (a : CallM X g f h1) (b : CallM X g f h2) (e : ∀ ds mu p, h ds mu = some p → h1 ds mu = some p ∨ h2 ds mu = some p) : CallM X g f h := by
  obtain ⟨r1, a1, b1⟩ := a.ex
  obtain ⟨r2, a2, b2⟩ := b.ex
  refine ⟨_, a1.or a2, fun th mu H ds vs d mu' o hd ee Q q => ?_⟩
  rcases e ds mu _ ee with z | z
  · exact .inl (b1 th mu H ds vs d mu' o hd z Q q)
  · exact .inr (b2 th mu H ds vs d mu' o hd z Q q)
/-- a pure built-in -/
theorem CallM.mk' {X : Cx} {g : Gam} {f : Value} {r : List V → Hp → VK → Prop} {h : Mu → List D → Option D} (a : CallR X f r)
    (b : ∀ th mu H ds vs d, Ok g th mu H → RpL g th (Gz th mu H) ds vs → h mu ds = some d → ∀ Q : VK, (∀ w H', Ex H H' → Rp g th (Gz th mu H') d w → Q w H') → r vs H Q) : CallM X g f (pureF h) :=
  ⟨r, a, fun th mu H ds vs d mu' o hd e Q q => by
    unfold pureF at e
    cases hh : h mu ds with
    | none => rw [hh] at e; cases e
    | some d' =>
      rw [hh] at e
      cases (Option.some.inj e)
      exact b th mu H ds vs d o hd hh Q fun w H' ex hw => q th w H' (Fw.heap o ex) hw⟩
section
variable {X : Cx} {g : Gam} {W : WX} {e : Expr} {es : List Expr} {x : Str} {p pos : Pos} {mr : M (List D)} {h : CallF}
theorem can_cb {f : Value} (hc : CallM X g f h) : ∃ r, CallR X f r ∧ ∀ σ H Q, canE g W (mCB h mr) σ H Q → tCB r (canA g W mr) σ H Q := by
  obtain ⟨r, h1, h2⟩ := hc.ex
  refine ⟨r, h1, fun σ H Q hq => (can_bind (R := RA g) hq).imp fun vs H1 ⟨ds, rh, mu1, th1, hd, r1, s, mu', e1, q⟩ => ?_⟩
  have e1 : (h ds mu1).map (fun p => ((Rs.ok p.1 : Rs D), p.2)) = some (s, mu') := e1
  cases hf : h ds mu1 with
  | none => rw [hf] at e1; cases e1
  | some p =>
    obtain ⟨d, mu2⟩ := p
    rw [hf] at e1
    cases (Option.some.inj e1)
    exact h2 th1 mu1 H1 ds vs d mu2 r1.ok hd hf Q fun th' w H' f hw => q th' w H' f hw
theorem pm_callB {id : String} (hc : CallM X g (.builtin id) h) (hm : X.mg x = none) (hv : bootBuiltins x = some (.builtin id)) (ha : PA X (e :: es) (canA g W mr)) (hg : Gl X x := by rfl) (hn : x ≠ "__name__" := by decide) (hdb : (x == ("__debug__" : Str)) = false := by decide)
    (he : starEach (e :: es) X.env = (false, eval e X.env) :: starEach es X.env := by rfl) (hpl : (backTo pos (starEach es X.env)).any (·.1) = false := by rfl) : PE X (.Call (.Name x p) (e :: es) [] pos) (canE g W (mCB h mr)) := by
  obtain ⟨r, h1, h2⟩ := can_cb (W := W) (mr := mr) hc
  exact PEimp (pe_callB h1 hg hm hv ha hn hdb he hpl) h2
theorem pm_callTy {T : String} (hc : CallM X g (.type T) h) (hm : X.mg x = none) (hv : bootBuiltins x = some (.type T)) (ha : PA X (e :: es) (canA g W mr)) (hg : Gl X x := by rfl) (hn : x ≠ "__name__" := by decide) (hdb : (x == ("__debug__" : Str)) = false := by decide)
    (he : starEach (e :: es) X.env = (false, eval e X.env) :: starEach es X.env := by rfl) (hpl : (backTo pos (starEach es X.env)).any (·.1) = false := by rfl) : PE X (.Call (.Name x p) (e :: es) [] pos) (canE g W (mCB h mr)) := by
  obtain ⟨r, h1, h2⟩ := can_cb (W := W) (mr := mr) hc
  exact PEimp (pe_callTy h1 hg hm hv ha hn hdb he hpl) h2
end
end Eb

/-! Eb: the built-ins one by one. -/
namespace Eb
open PySem L2
open Evl (Ex ex_l ex_t)
def lenD (mu : Mu) : List D → Option D
  | [.str z] => if z.length ≤ 100000 then some (.int z.length) else none
  | [.tup ds] => some (.int ds.length)
  | [.scr ns] => some (.int ns.length)
  | [x] => match lstOf mu x with
    | some ds => some (.int ds.length)
    | none => none
  | _ => none
def intsOf : List D → Option (List Int)
  | [] => some []
  | .int i :: ds => (intsOf ds).map (i :: ·)
  | _ :: _ => none
/-- what list(..), tuple(..) copy -/
def copyOf (mu : Mu) : D → Option (List D)
  | .tup ds => some ds
  | x => lstOf mu x
def listD (mu : Mu) : List D → Option D
  | [x] => (copyOf mu x).map .lst
  | _ => none
def listC : CallF := fun ds mu => match ds with
  | [x] => (copyOf mu x).map fun es => (.cel mu.length, mu ++ [.lst es])
  | _ => none
def tupleD (mu : Mu) : List D → Option D
  | [x] => (copyOf mu x).map .tup
  | _ => none
def sumD (mu : Mu) : List D → Option D
  | [x] => match lstOf mu x with
    | some ds => (intsOf ds).map fun ns => .int ns.sum
    | none => none
  | _ => none
def intD (_ : Mu) : List D → Option D
  | [.int i] => some (.int i)
  | [.bl b] => some (.int (if b then 1 else 0))
  | _ => none
def strD (_ : Mu) : List D → Option D
  | [.int i] => if -1000000000 ≤ i ∧ i ≤ 1000000000 then some (.str (toString i)) else none
  | _ => none
def minD (_ : Mu) : List D → Option D
  | [.int i, .int j] => some (.int (if j < i then j else i))
  | _ => none
def maxD (_ : Mu) : List D → Option D
  | [.int i, .int j] => some (.int (if j > i then j else i))
  | _ => none
section
variable {X : Cx} {g : Gam} {th : Th} {mu : Mu} {H : Hp} {G : Hp}
theorem intsOf_eq : ∀ {ds : List D} {ns : List Int} {vs : List V}, RpL g th G ds vs → intsOf ds = some ns → vs = ns.map V.int
  | [], ns, vs, h, e => by
    cases (Option.some.inj e)
    exact h
  | .int i :: ds, ns, vs, h, e => by
    obtain ⟨v, r, rfl, h1, h2⟩ := h
    have e : (intsOf ds).map (i :: ·) = some ns := e
    cases hr : intsOf ds with
    | none => rw [hr] at e; cases e
    | some ms =>
      rw [hr] at e
      cases (Option.some.inj e)
      rw [show v = .int i from h1, intsOf_eq h2 hr]
      rfl
  | .non :: ds, ns, vs, h, e => by cases e
  | .bl _ :: ds, ns, vs, h, e => by cases e
  | .str _ :: ds, ns, vs, h, e => by cases e
  | .tup _ :: ds, ns, vs, h, e => by cases e
  | .lst _ :: ds, ns, vs, h, e => by cases e
  | .ins _ _ :: ds, ns, vs, h, e => by cases e
  | .set _ :: ds, ns, vs, h, e => by cases e
  | .cel _ :: ds, ns, vs, h, e => by cases e
  | .scr _ :: ds, ns, vs, h, e => by cases e
  | .ty _ :: ds, ns, vs, h, e => by cases e
  | .cls _ :: ds, ns, vs, h, e => by cases e
  | .dic _ _ :: ds, ns, vs, h, e => by cases e
  | .exn _ _ :: ds, ns, vs, h, e => by cases e
theorem cm_len (hK : X.K = g.K) : CallM X g (.builtin "len") (pureF lenD) := by
  refine .mk' call_len fun th mu H ds vs d o hd e Q q => ?_
  rw [hK]
  unfold lenD at e
  split at e
  · rename_i z
    split at e
    · rename_i hz
      cases (Option.some.inj e)
      obtain ⟨v, rfl, hv⟩ := rpL1 hd
      rw [show v = .str z from hv]
      exact ⟨_, _, rfl, ⟨Evl.sz_of hz, rfl⟩, q _ H (fun _ _ z => z) rfl⟩
    · cases e
  · rename_i es
    cases (Option.some.inj e)
    obtain ⟨v, rfl, hv⟩ := rpL1 hd
    obtain ⟨a, xs, rfl, s1, r1, _⟩ := sqT_of hv
    exact ⟨_, _, rfl, .inr ⟨xs, s1, r1.length.symm⟩, q _ H (fun _ _ z => z) rfl⟩
  · rename_i ns
    cases (Option.some.inj e)
    obtain ⟨v, rfl, hv⟩ := rpL1 hd
    obtain ⟨a, rfl, s1⟩ := hv
    exact ⟨_, _, rfl, .inl ⟨_, ex_l Gz_sub s1, (List.length_map ..).symm⟩, q _ H (fun _ _ z => z) rfl⟩
  · split at e
    · rename_i es hl
      cases (Option.some.inj e)
      obtain ⟨v, rfl, hv⟩ := rpL1 hd
      obtain ⟨a, xs, rfl, s1, r1⟩ := lst_at o hv hl
      exact ⟨_, _, rfl, .inl ⟨xs, SqL.of s1, r1.length.symm⟩, q _ H (fun _ _ z => z) rfl⟩
    · cases e
  · cases e
theorem copy_at {d : D} {v : V} {es : List D} (o : Ok g th mu H) (h : Rp g th (Gz th mu H) d v) (e : copyOf mu d = some es) : ∃ a xs, v = .ref a ∧ (SqL g.K H a xs ∨ SqT g.K H a xs) ∧ RpL g th (Gz th mu H) es xs := by
  unfold copyOf at e
  split at e
  · cases (Option.some.inj e)
    obtain ⟨a, xs, rfl, s1, r1, _⟩ := sqT_of h
    exact ⟨a, xs, rfl, .inr s1, r1⟩
  · obtain ⟨a, xs, rfl, s1, r1⟩ := lst_at o h e
    exact ⟨a, xs, rfl, .inl (SqL.of s1), r1⟩
theorem cm_list (hK : X.K = g.K) : CallM X g (.type "list") (pureF listD) := by
  refine .mk' call_list_of fun th mu H ds vs d o hd e Q q => ?_
  rw [hK]
  unfold listD at e
  split at e
  · rename_i x
    obtain ⟨v, rfl, hv⟩ := rpL1 hd
    cases hc : copyOf mu x with
    | none => rw [hc] at e; cases e
    | some es =>
      rw [hc] at e
      cases (Option.some.inj e)
      obtain ⟨a, xs, rfl, s1, r1⟩ := copy_at o hv hc
      exact ⟨a, xs, rfl, s1, fun p hp => q _ _ (Evl.Ex.new hp) (rp_newLst o hp r1)⟩
  · cases e
theorem cell_new {es : List D} {xs : List V} {p : Addr} (o : Ok g th mu H) (hp : H p = none) (r : RpL g th (Gz th mu H) es xs) :
    Fw g th mu H (th.add p) (mu ++ [.lst es]) (upd H p (.lst xs)) ∧ Rp g (th.add p) (Gz (th.add p) (mu ++ [.lst es]) (upd H p (.lst xs))) (.cel mu.length) (.ref p) := by
  obtain ⟨o2, eg⟩ := o.push (u := .lst xs) (c := .lst es) hp rfl fun th' G' pf ex => ⟨xs, upd_same, RpL.mono pf ex _ _ r⟩
  refine ⟨⟨Pfx.add, o2, by rw [eg]; exact fun _ _ z => z, fun a m => ?_⟩, p, rfl, ?_⟩
  · obtain ⟨_, u, hu, _⟩ := o.hid a m
    exact upd_ne (ne_of_none hu hp)
  · show (th.ids ++ [p])[mu.length]? = some p
    rw [← o.len]; simp
theorem cm_listC (hK : X.K = g.K) : CallM X g (.type "list") listC := by
  refine ⟨_, call_list_of, fun th mu H ds vs d mu' o hd e Q q => ?_⟩
  rw [hK]
  unfold listC at e
  split at e
  · rename_i x
    obtain ⟨v, rfl, hv⟩ := rpL1 hd
    cases hc : copyOf mu x with
    | none => rw [hc] at e; cases e
    | some es =>
      rw [hc] at e
      cases (Option.some.inj e)
      obtain ⟨a, xs, rfl, s1, r1⟩ := copy_at o hv hc
      refine ⟨a, xs, rfl, s1, fun p hp => ?_⟩
      obtain ⟨f, hr⟩ := cell_new o hp r1
      exact q _ _ _ f hr
  · cases e
theorem cm_tuple (hK : X.K = g.K) : CallM X g (.type "tuple") (pureF tupleD) := by
  refine .mk' call_tuple_of fun th mu H ds vs d o hd e Q q => ?_
  rw [hK]
  unfold tupleD at e
  split at e
  · rename_i x
    obtain ⟨v, rfl, hv⟩ := rpL1 hd
    cases hc : copyOf mu x with
    | none => rw [hc] at e; cases e
    | some es =>
      rw [hc] at e
      cases (Option.some.inj e)
      unfold copyOf at hc
      split at hc
      · cases (Option.some.inj hc)
        obtain ⟨a, xs, rfl, s1, r1, _⟩ := sqT_of hv
        exact ⟨a, xs, rfl, .inr ⟨s1, q _ H (fun _ _ z => z) hv⟩⟩
      · obtain ⟨a, xs, rfl, s1, r1⟩ := lst_at o hv hc
        exact ⟨a, xs, rfl, .inl ⟨SqL.of s1, fun p hp => q _ _ (Evl.Ex.new hp) (rp_newTup o hp r1)⟩⟩
  · cases e
theorem cm_sum (hK : X.K = g.K) (hc : X.calm = true) : CallM X g (.builtin "sum") (pureF sumD) := by
  refine .mk' (cr_sum hc) fun th mu H ds vs d o hd e Q q => ?_
  rw [hK]
  unfold sumD at e
  split at e
  · rename_i x
    obtain ⟨v, rfl, hv⟩ := rpL1 hd
    split at e
    · rename_i es hl
      obtain ⟨a, xs, rfl, s1, r1⟩ := lst_at o hv hl
      cases hi : intsOf es with
      | none => rw [hi] at e; cases e
      | some ns =>
        rw [hi] at e
        cases (Option.some.inj e)
        rw [intsOf_eq r1 hi] at s1
        exact ⟨a, ns, rfl, SqL.of s1, q _ H (fun _ _ z => z) rfl⟩
    · cases e
  · cases e
theorem cm_int : CallM X g (.type "int") (pureF intD) := by
  refine .mk' call_int1 fun th mu H ds vs d o hd e Q q => ?_
  unfold intD at e
  split at e
  · cases (Option.some.inj e)
    obtain ⟨v, rfl, hv⟩ := rpL1 hd
    exact .inl ⟨_, by rw [show v = _ from hv], q _ H (fun _ _ z => z) rfl⟩
  · cases (Option.some.inj e)
    obtain ⟨v, rfl, hv⟩ := rpL1 hd
    exact .inr ⟨_, by rw [show v = _ from hv], q _ H (fun _ _ z => z) rfl⟩
  · cases e
theorem log_small {i : Int} (h : -1000000000 ≤ i ∧ i ≤ 1000000000) : i.natAbs.log2 < 1920 := by
  by_cases h0 : i.natAbs = 0
  · rw [h0]; decide
  · rw [Nat.log2_lt h0]
    exact Nat.lt_of_lt_of_le (show i.natAbs < 2 ^ 30 by omega) (Nat.pow_le_pow_right (by decide) (by decide))
theorem cm_str : CallM X g (.type "str") (pureF strD) := by
  refine .mk' call_str_int fun th mu H ds vs d o hd e Q q => ?_
  unfold strD at e
  split at e
  · split at e
    · rename_i hs
      cases (Option.some.inj e)
      obtain ⟨v, rfl, hv⟩ := rpL1 hd
      exact ⟨_, by rw [show v = _ from hv], log_small hs, q _ H (fun _ _ z => z) rfl⟩
    · cases e
  · cases e
theorem cm_min (hc : X.calm = true) : CallM X g (.builtin "min") (pureF minD) := by
  refine .mk' (call_min2 hc) fun th mu H ds vs d o hd e Q q => ?_
  unfold minD at e
  split at e
  · cases (Option.some.inj e)
    obtain ⟨v, w, rfl, hv, hw⟩ := rpL2 hd
    exact ⟨_, _, by rw [show v = _ from hv, show w = _ from hw], q _ H (fun _ _ z => z) rfl⟩
  · cases e
theorem cm_max (hc : X.calm = true) : CallM X g (.builtin "max") (pureF maxD) := by
  refine .mk' (call_max2 hc) fun th mu H ds vs d o hd e Q q => ?_
  unfold maxD at e
  split at e
  · cases (Option.some.inj e)
    obtain ⟨v, w, rfl, hv, hw⟩ := rpL2 hd
    exact ⟨_, _, by rw [show v = _ from hv, show w = _ from hw], q _ H (fun _ _ z => z) rfl⟩
  · cases e
end
/-! ### methods of built-in types -/
abbrev MtF := D → List D → Mu → Option (D × Mu)
structure MtS (X : Cx) (g : Gam) (T id : String) (chk : Mu → D → Bool) (f : MtF) : Prop where
  ex : ∃ r, MtR X id r ∧ (∀ th mu H d v, Ok g th mu H → Rp g th (Gz th mu H) d v → chk mu d = true → tyV g.K T v H) ∧
    ∀ th mu H d v ds vs d' mu', Ok g th mu H → Rp g th (Gz th mu H) d v → RpL g th (Gz th mu H) ds vs → f d ds mu = some (d', mu') → ∀ Q : VK, (∀ th' w H', Fw g th mu H th' mu' H' → Rp g th' (Gz th' mu' H') d' w → Q w H') → r v vs H Q
def mBM (chk : Mu → D → Bool) (f : MtF) (mo : ME) (mr : M (List D)) : ME := bindM mo fun o => bindM (lift fun mu => if chk mu o then some () else none) fun _ => bindM mr fun ds _ mu => (f o ds mu).map fun p => (.ok p.1, p.2)
section
variable {X : Cx} {g : Gam} {W : WX} {o e : Expr} {es : List Expr} {name : Str} {apos cpos : Pos} {T id : String} {chk : Mu → D → Bool} {f : MtF} {mo : ME} {mr : M (List D)}
theorem can_bm {r : V → List V → Hp → VK → Prop} (h1 : ∀ th mu H d v, Ok g th mu H → Rp g th (Gz th mu H) d v → chk mu d = true → tyV g.K T v H)
    (h2 : ∀ th mu H d v ds vs d' mu', Ok g th mu H → Rp g th (Gz th mu H) d v → RpL g th (Gz th mu H) ds vs → f d ds mu = some (d', mu') → ∀ Q : VK, (∀ th' w H', Fw g th mu H th' mu' H' → Rp g th' (Gz th' mu' H') d' w → Q w H') → r v vs H Q)
    {σ : L2.St} {H : Hp} {Q : VK} (h : canE g W (mBM chk f mo mr) σ H Q) : canE g W mo σ H fun x H1 => tyV g.K T x H1 ∧ canA g W mr σ H1 fun xs H2 => r x xs H2 Q :=
  (can_bind (R := RE g) h).imp fun v H1 ⟨d, rh, mu1, th1, hd, r1, h1'⟩ => by
    obtain ⟨s, mu2, e2, q2⟩ := canAt_bind (R := fun _ _ (a : Unit) (b : Unit) => a = b) r1 h1'
    have e2 : (if chk mu1 d then some () else none).map (fun a => (Rs.ok a, mu1)) = some (s, mu2) := e2
    by_cases hc : chk mu1 d = true
    · rw [if_pos hc] at e2
      cases (Option.some.inj e2)
      refine ⟨h1 th1 mu1 H1 d v r1.ok hd hc, ?_⟩
      obtain ⟨_, mu3, th3, f3, _, r3, h3⟩ := q2 th1 () H1 (Fw.refl r1.ok) rfl
      refine ⟨rh, mu3, th3, r3, (canAt_bind (R := RA g) r3 h3).imp fun vs H4 ⟨es, mu4, th4, f4, hs, r4, s4, mu5, e5, q5⟩ => ?_⟩
      have e5 : (f d es mu4).map (fun p => ((Rs.ok p.1 : Rs D), p.2)) = some (s4, mu5) := e5
      cases hf : f d es mu4 with
      | none => rw [hf] at e5; cases e5
      | some p =>
        obtain ⟨d', mu6⟩ := p
        rw [hf] at e5
        cases (Option.some.inj e5)
        exact h2 th4 mu4 H4 d v es vs d' mu6 r4.ok (hd.mono (f3.trans f4).pf (f3.trans f4).ex) hs hf Q fun th' w H' f hw => q5 th' w H' f hw
    · rw [if_neg hc] at e2; cases e2
theorem pm_bm (hK : X.K = g.K) (m : MtS X g T id chk f) (pa : PlainAttrs T) (slot : PySem.Slot T name id) (hty : typeOf (.builtin id) = pure (.type "method_descriptor")) (ho : PE X o (canE g W mo)) (ha : PA X (e :: es) (canA g W mr))
    (hbase : attributeBase o name X.env (eval o X.env) = eval o X.env := by rfl)
    (hfew : ((backTo cpos (starEach (e :: es) X.env)).all (fun x => !x.1) && (backToKw cpos (keywordEach [] X.env)).all (fun x => x.1.isSome) && decide ((e :: es).length + ([] : List Keyword).length + (if ([] : List Keyword).isEmpty then 0 else 1) < 30)) = true := by rfl)
    (hline : (apos.endLine == cpos.line) = true := by rfl) (hs : starEach (e :: es) X.env = (false, eval e X.env) :: starEach es X.env := by rfl) (hplain : (backTo cpos (starEach es X.env)).any (·.1) = false := by rfl) :
    PE X (.Call (.Attribute o name apos) (e :: es) [] cpos) (canE g W (mBM chk f mo mr)) := by
  obtain ⟨r, h0, h1, h2⟩ := m.ex
  refine PEimp (pe_bm pa slot hty h0 ho ha hbase hfew hline hs hplain) fun σ H Q h => ?_
  have q := can_bm h1 h2 h
  rw [← hK] at q
  exact q
theorem pm_bm0 (hK : X.K = g.K) (m : MtS X g T id chk f) (pa : PlainAttrs T) (slot : PySem.Slot T name id) (hty : typeOf (.builtin id) = pure (.type "method_descriptor")) (ho : PE X o (canE g W mo))
    (hbase : attributeBase o name X.env (eval o X.env) = eval o X.env := by rfl) (hline : (apos.endLine == cpos.line) = true := by rfl) : PE X (.Call (.Attribute o name apos) [] [] cpos) (canE g W (mBM chk f mo mNil)) := by
  obtain ⟨r, h0, h1, h2⟩ := m.ex
  refine PEimp (pe_bm0 pa slot hty h0 ho hbase hline) fun σ H Q h => ?_
  have q := can_bm h1 h2 h
  rw [← hK] at q
  refine q.imp fun v H1 z => ⟨z.1, ?_⟩
  obtain ⟨rh, mu, th, r, h4⟩ := z.2
  exact canAt_ret (R := RA g) r h4 th [] H1 (Fw.refl r.ok) rfl
end
/-- o is a cell that holds a list -/
def isCell (mu : Mu) : D → Bool
  | .cel k => match mu[k]? with
    | some (.lst _) => true
    | _ => false
  | _ => false
def isStr (_ : Mu) : D → Bool
  | .str _ => true
  | _ => false
def appF : MtF := fun o ds mu => match o, ds with
  | .cel k, [d] => match mu[k]? with
    | some (.lst xs) => if xs.length < 100000 then some (.non, mu.set k (.lst (xs ++ [d]))) else none
    | _ => none
  | _, _ => none
def clearF : MtF := fun o ds mu => match o, ds with
  | .cel k, [] => match mu[k]? with
    | some (.lst _) => some (.non, mu.set k (.lst []))
    | _ => none
  | _, _ => none
section
variable {X : Cx} {g : Gam} {th : Th} {mu : Mu} {H : Hp}
theorem isCell_ty {d : D} {v : V} (o : Ok g th mu H) (h : Rp g th (Gz th mu H) d v) (c : isCell mu d = true) : tyV g.K "list" v H := by
  unfold isCell at c
  split at c
  · split at c
    · rename_i ds hk
      obtain ⟨a, rfl, ha⟩ := h
      obtain ⟨xs, q1, q2⟩ := o.cel _ a _ ha hk
      exact .inl ⟨rfl, xs, SqL.of q1⟩
    · cases c
  · cases c
/-- a list's cell is written -/
theorem cell_set {k : Nat} {a : Addr} {ds es : List D} {ys : List V} (o : Ok g th mu H) (ha : th.ids[k]? = some a) (hk : mu[k]? = some (.lst ds)) (r : RpL g th (Gz th mu H) es ys) : Fw g th mu H th (mu.set k (.lst es)) (upd H a (.lst ys)) := by
  obtain ⟨o2, eg, hh⟩ := o.write (u := .lst ys) (c' := .lst es) ha hk rfl rfl ⟨ys, upd_same, r⟩
  exact ⟨Pfx.refl, o2, by rw [eg]; exact fun _ _ z => z, hh⟩
theorem ms_append : MtS X g "list" "list.append" isCell appF := by
  refine ⟨_, mt_append, fun th mu H d v o h c => isCell_ty o h c, fun th mu H d v ds vs d' mu' o h hs e Q q => ?_⟩
  unfold appF at e
  split at e
  · rename_i k x
    split at e
    · rename_i xs hk
      split at e
      · rename_i hl
        cases (Option.some.inj e)
        obtain ⟨w, rfl, hw⟩ := rpL1 hs
        obtain ⟨a, rfl, ha⟩ := h
        obtain ⟨ys, q1, q2⟩ := o.cel _ a _ ha hk
        have f := cell_set (es := xs ++ [x]) (ys := ys ++ [w]) o ha hk (RpL.append q2 (es := [x]) (ws := [w]) ⟨w, [], rfl, hw, rfl⟩)
        exact ⟨a, ys, w, rfl, rfl, q1, Evl.sz_lt (by rw [q2.length]; exact hl), q _ _ _ f rfl⟩
      · cases e
    · cases e
  · cases e
theorem ms_clear : MtS X g "list" "list.clear" isCell clearF := by
  refine ⟨_, mt_clear, fun th mu H d v o h c => isCell_ty o h c, fun th mu H d v ds vs d' mu' o h hs e Q q => ?_⟩
  unfold clearF at e
  split at e
  · rename_i k
    split at e
    · rename_i xs hk
      cases (Option.some.inj e)
      obtain ⟨a, rfl, ha⟩ := h
      obtain ⟨ys, q1, q2⟩ := o.cel _ a _ ha hk
      have f := cell_set (es := []) (ys := []) o ha hk rfl
      exact ⟨a, ys, rfl, hs, q1, q _ _ _ f rfl⟩
    · cases e
  · cases e
end
def strsOf : List D → Option (List Str)
  | [] => some []
  | .str i :: ds => (strsOf ds).map (i :: ·)
  | _ :: _ => none
def joinF : MtF := fun o ds mu => match o, ds with
  | .str a, [x] => match copyOf mu x with
    | some es => match strsOf es with
      | some ys => if (ys.map (·.length)).sum + ys.length * a.length ≤ 100000 then some (.str (Txt.join a ys), mu) else none
      | none => none
    | none => none
  | _, _ => none
section
variable {X : Cx} {g : Gam} {th : Th} {mu : Mu} {H : Hp} {G : Hp}
theorem strsOf_eq : ∀ {ds : List D} {ns : List Str} {vs : List V}, RpL g th G ds vs → strsOf ds = some ns → vs = ns.map V.str
  | [], ns, vs, h, e => by
    cases (Option.some.inj e)
    exact h
  | d :: ds, ns, vs, h, e => by
    obtain ⟨v, r, rfl, h1, h2⟩ := h
    cases d with
    | str i =>
      have e : (strsOf ds).map (i :: ·) = some ns := e
      cases hr : strsOf ds with
      | none => rw [hr] at e; cases e
      | some ms =>
        rw [hr] at e
        cases (Option.some.inj e)
        rw [show v = .str i from h1, strsOf_eq h2 hr]
        rfl
    | _ => cases e
theorem ms_join (hK : X.K = g.K) : MtS X g "str" "str.join" isStr joinF := by
  refine ⟨_, mt_join, fun th mu H d v o h c => ?_, fun th mu H d v ds vs d' mu' o h hs e Q q => ?_⟩
  · cases d with
    | str z => rw [show v = .str z from h]; rfl
    | _ => cases c
  · rw [hK]
    unfold joinF at e
    split at e
    · rename_i a x
      split at e
      · rename_i es hc
        split at e
        · rename_i ys hy
          split at e
          · rename_i hl
            cases (Option.some.inj e)
            obtain ⟨w, rfl, hw⟩ := rpL1 hs
            obtain ⟨p, xs, rfl, s1, r1⟩ := copy_at o hw hc
            rw [strsOf_eq r1 hy] at s1
            exact ⟨a, p, ys, h, rfl, s1, by omega, q _ _ _ (Fw.refl o) rfl⟩
          · cases e
        · cases e
      · cases e
    · cases e
end
/-! ### xs[i] = e -/
def stIx (o i y : D) (mu : Mu) : Option Mu := match o, i with
  | .cel k, .int i => match mu[k]? with
    | some (.lst ds) => (ixN ds.length i).map fun j => mu.set k (.lst (ds.set j y))
    | _ => none
  | _, _ => none
theorem stIx_cases {o i y : D} {mu mu' : Mu} (h : stIx o i y mu = some mu') : ∃ k j ds n, o = .cel k ∧ i = .int j ∧ mu[k]? = some (.lst ds) ∧ ixN ds.length j = some n ∧ mu' = mu.set k (.lst (ds.set n y)) := by
  unfold stIx at h
  split at h
  · rename_i k j
    split at h
    · rename_i ds hk
      cases hj : ixN ds.length j with
      | none => rw [hj] at h; cases h
      | some n =>
        rw [hj] at h
        exact ⟨k, j, ds, n, rfl, rfl, hk, hj, (Option.some.inj h).symm⟩
    · cases h
  · cases h
def sPut (mo mi mv : ME) : MS := bindS mv fun y => bindS mo fun o => bindS mi fun i rh mu => (stIx o i y mu).map fun mu' => (.nx rh, mu')
section
variable {X : Cx} {g : Gam} {W : WX} {o i e : Expr} {mo mi mv : ME} {pos pos' : Pos}
theorem pm_put (ho : PE X o (canE g W mo)) (hi : PE X i (canE g W mi)) (hv : PE X e (canE g W mv))
    (ha : ∀ v, assign (.Subscript o i pos') X.env v = (do
      let ov ← holding [v] (eval o X.env)
      let iv ← holding [v, ov] (eval i X.env)
      standAt pos'
      holding [v, ov, iv] (setItem ov iv v)
      release [v, ov, iv] []) := by intro _; rfl)
    (hs : swapsWithSole [.Subscript o i pos'] e pos.line X.env = pure false := by rfl) (hw : swappedStores [.Subscript o i pos'] e X.env = pure none := by rfl) (h1 : (assignEach [.Subscript o i pos'] X.env).map (·.2) = [assign (.Subscript o i pos') X.env] := by rfl) :
    PS X (.Assign [.Subscript o i pos'] e pos) (canS g W (sPut mo mi mv)) :=
  PSimp (ps_asg hv (pg_sub ho hi set_list ha) hs hw h1) fun Dn σ H h => (canS_bind (R := RE g) h).imp fun y H1 ⟨dy, rh, mu1, th1, hy, r1, h1⟩ => ⟨rh, mu1, th1, r1, (canSAt_bind (R := RE g) r1 h1).imp fun x H2 ⟨d, mu2, th2, f2, hd, r2, h2⟩ =>
    ⟨rh, mu2, th2, r2, (canSAt_bind (R := RE g) r2 h2).imp fun z H3 ⟨di, mu3, th3, f3, hi, r3, ot, mu', e, q⟩ => by
      have e : (stIx d di dy mu3).map (fun mu' => (Out.nx rh, mu')) = some (ot, mu') := e
      have hy3 := hy.mono (f2.trans f3).pf (f2.trans f3).ex
      have hd3 := hd.mono f3.pf f3.ex
      cases hst : stIx d di dy mu3 with
      | none => rw [hst] at e; cases e
      | some mu4 =>
        rw [hst] at e
        cases (Option.some.inj e)
        obtain ⟨k, j, ds, n, rfl, rfl, hk, hj, rfl⟩ := stIx_cases hst
        obtain ⟨a, rfl, ha⟩ := hd3
        obtain ⟨ys, q1, q2⟩ := r3.ok.cel _ a _ ha hk
        have f := cell_set (es := ds.set n dy) (ys := ys.set n y) r3.ok ha hk (q2.set n hy3)
        exact ⟨a, ys, j, n, rfl, hi, q1, by rw [q2.length]; exact hj, q th3 σ _ f (r3.fw f)⟩⟩⟩
end
end Eb

/-! Eb: sets of ints, sorted tuples, isinstance, a tuple once. -/
namespace Eb
open PySem L2 PyProof.Rows
open Evl (Ex ex_l ex_t)
/-! ### sorted lists of ints -/
def insS (x : Int) : List Int → List Int
  | [] => [x]
  | y :: r => if x < y then x :: y :: r else if x = y then y :: r else y :: insS x r
/-- the members, rising, each once -/
def sdd : List Int → List Int
  | [] => []
  | x :: r => insS x (sdd r)
def insI (x : Int) : List Int → List Int
  | [] => [x]
  | y :: r => if x ≤ y then x :: y :: r else y :: insI x r
/-- the items, rising -/
def srt : List Int → List Int
  | [] => []
  | x :: r => insI x (srt r)
theorem insS_mem {x k : Int} : ∀ {l : List Int}, k ∈ insS x l ↔ k = x ∨ k ∈ l
  | [] => by simp [insS]
  | y :: r => by
    unfold insS
    split
    · simp
    · split
      · rename_i h1 h2
        subst h2
        simp
      · rw [List.mem_cons, insS_mem, List.mem_cons]
        constructor
        · rintro (h | h | h) <;> simp [h]
        · rintro (h | h | h) <;> simp [h]
theorem sdd_mem {k : Int} : ∀ {l : List Int}, k ∈ sdd l ↔ k ∈ l
  | [] => by simp [sdd]
  | x :: r => by rw [sdd, insS_mem, sdd_mem, List.mem_cons]
theorem insS_pw {x : Int} : ∀ {l : List Int}, l.Pairwise (· < ·) → (insS x l).Pairwise (· < ·)
  | [], _ => by simp [insS]
  | y :: r, h => by
    obtain ⟨h1, h2⟩ := List.pairwise_cons.mp h
    unfold insS
    split
    · rename_i hl
      refine List.pairwise_cons.mpr ⟨fun z hz => ?_, h⟩
      rcases List.mem_cons.mp hz with rfl | hz
      · exact hl
      · exact Int.lt_trans hl (h1 z hz)
    · split
      · exact h
      · rename_i ha hb
        refine List.pairwise_cons.mpr ⟨fun z hz => ?_, insS_pw h2⟩
        rcases insS_mem.mp hz with rfl | hz
        · omega
        · exact h1 z hz
theorem sdd_pw : ∀ l : List Int, (sdd l).Pairwise (· < ·)
  | [] => List.Pairwise.nil
  | x :: r => insS_pw (sdd_pw r)
theorem insI_perm (x : Int) : ∀ l : List Int, (insI x l).Perm (x :: l)
  | [] => .refl _
  | y :: r => by
    unfold insI
    split
    · exact .refl _
    · exact ((insI_perm x r).cons y).trans (List.Perm.swap x y r)
theorem srt_perm : ∀ l : List Int, (srt l).Perm l
  | [] => .refl _
  | x :: r => (insI_perm x (srt r)).trans ((srt_perm r).cons x)
theorem insI_pw {x : Int} : ∀ {l : List Int}, l.Pairwise (· ≤ ·) → (insI x l).Pairwise (· ≤ ·)
  | [], _ => by simp [insI]
  | y :: r, h => by
    obtain ⟨h1, h2⟩ := List.pairwise_cons.mp h
    unfold insI
    split
    · rename_i hl
      refine List.pairwise_cons.mpr ⟨fun z hz => ?_, h⟩
      rcases List.mem_cons.mp hz with rfl | hz
      · exact hl
      · exact Int.le_trans hl (h1 z hz)
    · rename_i ha
      refine List.pairwise_cons.mpr ⟨fun z hz => ?_, insI_pw h2⟩
      rcases List.mem_cons.mp ((insI_perm x r).mem_iff.mp hz) with rfl | hz
      · omega
      · exact h1 z hz
theorem srt_pw : ∀ l : List Int, (srt l).Pairwise (· ≤ ·)
  | [] => List.Pairwise.nil
  | x :: r => insI_pw (srt_pw r)
/-- two rising arrangements of the same ints are one -/
theorem pw_unique : ∀ {l m : List Int}, l.Perm m → l.Pairwise (· ≤ ·) → m.Pairwise (· ≤ ·) → l = m
  | [], m, p, _, _ => (List.Perm.nil_eq p)
  | a :: l, [], p, _, _ => absurd p.length_eq (by simp)
  | a :: l, b :: m, p, h1, h2 => by
    obtain ⟨q1, r1⟩ := List.pairwise_cons.mp h1
    obtain ⟨q2, r2⟩ := List.pairwise_cons.mp h2
    have e : a = b := by
      have ha : a ∈ b :: m := p.mem_iff.mp List.mem_cons_self
      have hb : b ∈ a :: l := p.mem_iff.mpr List.mem_cons_self
      rcases List.mem_cons.mp ha with e | ha
      · exact e
      · rcases List.mem_cons.mp hb with e | hb
        · exact e.symm
        · exact Int.le_antisymm (q1 b hb) (q2 a ha)
    subst e
    rw [pw_unique (List.Perm.cons_inv p) r1 r2]
theorem lt_le {l : List Int} (h : l.Pairwise (· < ·)) : l.Pairwise (· ≤ ·) := h.imp fun h => Int.le_of_lt h
theorem lt_nd {l : List Int} (h : l.Pairwise (· < ·)) : l.Nodup := h.imp fun h => Int.ne_of_lt h
theorem nd_perm {l m : List Int} (h1 : l.Nodup) (h2 : m.Nodup) (h : ∀ k, k ∈ l ↔ k ∈ m) : l.Perm m := by
  refine (List.perm_ext_iff_of_nodup h1 h2).mpr h
theorem sdd_unique {l m : List Int} (h : l.Pairwise (· < ·)) (hm : ∀ k, k ∈ l ↔ k ∈ m) : l = sdd m :=
  pw_unique (nd_perm (lt_nd h) (lt_nd (sdd_pw m)) fun k => (hm k).trans sdd_mem.symm) (lt_le h) (lt_le (sdd_pw m))
/-! ### set(tuple of ints) -/
section
variable {X : Cx} {g : Gam} {th : Th} {mu : Mu} {H : Hp} {G : Hp}
theorem set_count {w : World} {h : Heap} {a : Addr} {S : Int → Bool} {n : Nat} {l : List Int} (R : SetR w h a S n) (hn : l.Nodup) (hm : ∀ k, S k = true ↔ k ∈ l) : n = l.length := by
  obtain ⟨o, es, ep, t, _, _, _, _, nd, hk, _, _, hs, _⟩ := R
  have p := nd_perm hn nd fun k => (hm k).symm.trans (hk k)
  rw [p.length_eq, List.length_map, Array.length_toList]
  exact hs.symm
def rSetT (K : PySem.W.Frag) (w : World) : List V → Hp → VK → Prop := fun vs H Q => ∃ (a : Addr) (ns : List Int), vs = [.ref a] ∧ SqT K H a (ns.map V.int) ∧ ns.length ≤ 1000 ∧
  ∀ p S, H p = none → (∀ k, S k = true ↔ k ∈ ns) → Q (.ref p) (upd H p (SetO w p S (sdd ns).length))
theorem cr_setT (hc : X.calm = true) : CallR X (.type "set") (rSetT X.K X.w) := by
  intro pins s σ H vs us Q I r h
  obtain ⟨a, ns, rfl, hs, hl, q⟩ := h
  obtain ⟨its, rv, ht, _⟩ := I.tuple hs
  rw [Vals.ref1 r]
  have hi : IntsAre its.toArray.toList ns := intsAre_of rv
  have h4 : ns.length + 1 < scanBound := Nat.lt_of_le_of_lt (Nat.succ_le_succ hl) (by decide)
  refine call_set_tupI ns (I.ok.hd hc) ht hi h4 fun h' tk c R hcn k => ?_
  have ec : c = (sdd ns).length := set_count R (lt_nd (sdd_pw ns)) fun k => by rw [decide_eq_true_eq, sdd_mem]
  subst ec
  refine ⟨.ref s.heap.objs.size, _, I.laid (t' := tk) (o := SetO X.w s.heap.objs.size (fun j => decide (j ∈ ns)) (sdd ns).length) k (Nat.le_refl _) (setO_new R), rfl, ?_⟩
  exact q _ _ (I.hok.fresh (Nat.le_refl _)) fun k => decide_eq_true_iff
def setD (_ : Mu) : List D → Option D
  | [.tup ds] => match intsOf ds with
    | some ns => if ns.length ≤ 1000 then some (.set (sdd ns)) else none
    | none => none
  | _ => none
theorem cm_set (hK : X.K = g.K) (hw : X.w = g.w) (hc : X.calm = true) : CallM X g (.type "set") (pureF setD) := by
  refine .mk' (cr_setT hc) fun th mu H ds vs d o hd e Q q => ?_
  rw [hK, hw]
  unfold setD at e
  split at e
  · rename_i es
    split at e
    · rename_i ns hi
      split at e
      · rename_i hl
        cases (Option.some.inj e)
        obtain ⟨v, rfl, hv⟩ := rpL1 hd
        obtain ⟨a, xs, rfl, s1, r1, _⟩ := sqT_of hv
        rw [intsOf_eq r1 hi] at s1
        refine ⟨a, ns, rfl, s1, hl, fun p S hp hS => q _ _ (Evl.Ex.new hp) ⟨p, S, rfl, ?_, sdd_pw ns, fun k => (hS k).trans sdd_mem.symm⟩⟩
        unfold Gz
        rw [if_neg (o.new hp)]
        exact upd_same
      · cases e
    · cases e
  · cases e
/-- sorted(set) -/
def sortSetD (_ : Mu) : List D → Option D
  | [.set ns] => if ns.length < 64 then some (.lst (ns.map .int)) else none
  | _ => none
theorem cm_sortSet (hw : X.w = g.w) (hc : X.calm = true) : CallM X g (.builtin "sorted") (pureF sortSetD) := by
  refine .mk' (cr_sortedSet hc) fun th mu H ds vs d o hd e Q q => ?_
  rw [hw]
  unfold sortSetD at e
  split at e
  · rename_i ns
    split at e
    · rename_i hl
      cases (Option.some.inj e)
      obtain ⟨v, rfl, hv⟩ := rpL1 hd
      obtain ⟨a, S, rfl, s1, s2, s3⟩ := hv
      refine ⟨a, S, _, rfl, Gz_sub _ _ s1, hl, fun ms p h1 h2 h3 hp => ?_⟩
      have e1 : ms = ns := by
        rw [sdd_unique h1 (m := ns) fun k => (h2 k).trans (s3 k)]
        exact (sdd_unique s2 fun k => Iff.rfl).symm
      subst e1
      exact q _ _ (Evl.Ex.new hp) (rp_newLst o hp (map_int_rp ms))
    · cases e
  · cases e
/-- len(set) -/
def rLenSet (w : World) : List V → Hp → VK → Prop := fun vs H Q => ∃ a S n, vs = [V.ref a] ∧ H a = some (SetO w a S n) ∧ Q (.int (n : Int)) H
theorem scan_fit {n : Nat} (h : n < scanBound) : (n : Int) < 2 ^ 63 := by
  have : scanBound ≤ 2 ^ 62 := by decide
  omega
theorem cr_lenSet : CallR X (.builtin "len") (rLenSet X.w) := by
  intro pins s σ H vs us Q I r h
  obtain ⟨a, S, n, rfl, ha, q⟩ := h
  rw [Vals.ref1 r]
  obtain ⟨o, es, ep, t, ho, hex, hd, _, _, _, hb, hf, hn, _⟩ := setO_get I ha
  refine call_len_set ho hex hd hf (scan_fit hb) ?_
  rw [hn]
  exact ⟨.int n, H, I.tok _, ⟨_, rfl⟩, q⟩
def lenSetD (_ : Mu) : List D → Option D
  | [.set ns] => some (.int ns.length)
  | _ => none
theorem cm_lenSet (hw : X.w = g.w) : CallM X g (.builtin "len") (pureF lenSetD) := by
  refine .mk' cr_lenSet fun th mu H ds vs d o hd e Q q => ?_
  rw [hw]
  unfold lenSetD at e
  split at e
  · cases (Option.some.inj e)
    obtain ⟨v, rfl, hv⟩ := rpL1 hd
    obtain ⟨a, S, rfl, s1, _⟩ := hv
    exact ⟨a, S, _, rfl, Gz_sub _ _ s1, q _ H (fun _ _ z => z) rfl⟩
  · cases e
/-! ### sorted(tuple of ints) -/
theorem sorted_tupI {prog : Program} {w : World} {A : Around} {E : Value → Shared → Prop} {s : Shared} {a : Addr} {vs : List Value} {ns : List Int} {Q : Value → Shared → Prop} (ht : IsTup s.heap a vs.toArray) (hI : IntsAre vs ns) (h64 : vs.length < 64)
    (h : ∀ (h1 h' : Heap) (p : Addr) (out : Array Value) (c : Nat) (ms : List Int), (∀ b o, s.heap.get? b = some o → h1.get? b = some o) → (∀ b o, h1.get? b = some o → h'.get? b = some o) → h1.objs.size ≤ p → h'.get? p = some (seqObj "list" out c) → IntsAre out.toList ms → ms.Perm ns → ms.Pairwise (· ≤ ·) → Q (.ref p) { s with heap := h' }) :
    wpAny (model prog w) A (call (.builtin "sorted") [.ref a]) Q E s := by
  obtain ⟨o, ho, hc, n, hd⟩ := ht
  have hz : vs.length ≤ sizeLine := by rw [sizeLine_eq]; omega
  refine Calls.call_function_entry kind_sorted plain_sorted entry_sorted (args_sorted1 (.ref a)) ?_
  unfold Builtin.«sorted»
  refine wpAny_bind (m := checkCount _ 1 1 _) (wpAny_pure (wpAny_bind ?_))
  refine wpAny_collect_seq (it := a) (T := "tuple") (.inr rfl) ho hc hd (fun h1 k1 => ?_) (by rw [List.size_toArray]; exact hz)
  rw [List.toList_toArray]
  refine wpAny_bind (wpAny_newList ?_ hz)
  have hoL : (h1.push (seqObj "list" vs.toArray 0)).get? h1.objs.size = some (seqObj "list" vs.toArray 0) := Heap.get?_push_size h1 rfl
  refine wpAny_bind (wpAny_holding (wpAny_call_entry (ha := args_list_sort _) slot_list_sort ⟨_, hoL, rfl⟩ entry_list_sort ?_))
  refine list_sort_tree hoL hI h64 fun out ms b1 b2 b3 => ⟨_, rfl, wpAny_pure ⟨_, rfl, ?_⟩⟩
  obtain ⟨c, hc2⟩ := sortedHeap_at (vs := vs) (out := out) hoL
  refine h h1 _ h1.objs.size out c ms k1 (fun b u e => ?_) (Nat.le_refl _) hc2 b1 b2 b3
  have lb := Heap.lt_size e
  rw [sortedHeap_old (Nat.ne_of_lt lb) (Nat.lt_of_lt_of_le lb (by rw [size_push']; exact Nat.le_succ _))]
  exact Heap.get?_push_of_some _ e
def rSortTup (K : PySem.W.Frag) : List V → Hp → VK → Prop := fun vs H Q => ∃ (a : Addr) (ns : List Int), vs = [V.ref a] ∧ SqT K H a (ns.map V.int) ∧ ns.length < 64 ∧ ∀ p, H p = none → Q (.ref p) (upd H p (.lst ((srt ns).map V.int)))
theorem cr_sortTup : CallR X (.builtin "sorted") (rSortTup X.K) := by
  intro pins s σ H vs us Q I r h
  obtain ⟨a, ns, rfl, hs, h64, q⟩ := h
  obtain ⟨its, rv, ht, _⟩ := I.tuple hs
  rw [Vals.ref1 r]
  have hi : IntsAre its.toArray.toList ns := intsAre_of rv
  have hl := rv.length
  rw [List.length_map] at hl
  refine sorted_tupI ht hi (by omega) fun h1 h' p out c ms k1 k2 hp hg b1 b2 b3 => ?_
  have e : ms = srt ns := pw_unique (b2.trans (srt_perm ns).symm) b3 (srt_pw ns)
  subst e
  have I1 : Inv X pins σ H { s with heap := h1 } := I.kept (t' := s.toks) k1
  have hz : ((srt ns).map V.int).length ≤ sizeLine := by rw [List.length_map, (srt_perm ns).length_eq, sizeLine_eq]; omega
  exact ⟨.ref p, _, I1.laid (t' := s.toks) (o := .lst ((srt ns).map V.int)) k2 hp ⟨hz, out.toList, c, vals_of_ints b1, hg⟩, rfl, q p (I1.hok.fresh hp)⟩
def sortTupD (_ : Mu) : List D → Option D
  | [.tup ds] => match intsOf ds with
    | some ns => if ns.length < 64 then some (.lst ((srt ns).map .int)) else none
    | none => none
  | _ => none
theorem cm_sortTup (hK : X.K = g.K) : CallM X g (.builtin "sorted") (pureF sortTupD) := by
  refine .mk' cr_sortTup fun th mu H ds vs d o hd e Q q => ?_
  rw [hK]
  unfold sortTupD at e
  split at e
  · rename_i es
    split at e
    · rename_i ns hi
      split at e
      · rename_i hl
        cases (Option.some.inj e)
        obtain ⟨v, rfl, hv⟩ := rpL1 hd
        obtain ⟨a, xs, rfl, s1, r1, _⟩ := sqT_of hv
        rw [intsOf_eq r1 hi] at s1
        exact ⟨a, ns, rfl, s1, hl, fun p hp => q _ _ (Evl.Ex.new hp) (rp_newLst o hp (map_int_rp _))⟩
      · cases e
    · cases e
  · cases e
/-! ### isinstance with a built-in type -/
def tyName (mu : Mu) : D → Option String
  | .non => some "NoneType"
  | .bl _ => some "bool"
  | .int _ => some "int"
  | .str _ => some "str"
  | .tup _ => some "tuple"
  | x => (lstOf mu x).map fun _ => "list"
def isiD (mu : Mu) : List D → Option D
  | [x, .ty n] => (tyName mu x).bind fun t => (kitB t n).map .bl
  | _ => none
theorem cm_isi (hK : X.K = g.K) : CallM X g (.builtin "isinstance") (pureF isiD) := by
  refine .mk' call_isi fun th mu H ds vs d o hd e Q q => ?_
  rw [hK]
  unfold isiD at e
  split at e
  · rename_i x n
    obtain ⟨v, w, rfl, hv, hw⟩ := rpL2 hd
    cases ht : tyName mu x with
    | none => rw [ht] at e; cases e
    | some t =>
      rw [ht] at e
      have e : (kitB t n).map D.bl = some d := e
      cases hb : kitB t n with
      | none => rw [hb] at e; cases e
      | some b =>
        rw [hb] at e
        cases (Option.some.inj e)
        have hw : w = .ty n := hw
        subst hw
        refine ⟨v, .ty n, .type t, .type n, b, rfl, .ty n, ?_, kit_ty hb, q _ H (fun _ _ z => z) rfl⟩
        unfold tyName at ht
        split at ht
        · cases (Option.some.inj ht); rw [show v = .non from hv]; exact .base .non
        · cases (Option.some.inj ht); rw [show v = .bl _ from hv]; exact .base (.bl _)
        · cases (Option.some.inj ht); rw [show v = .int _ from hv]; exact .base (.int _)
        · cases (Option.some.inj ht); rw [show v = .str _ from hv]; exact .base (.str _)
        · cases (Option.some.inj ht)
          obtain ⟨a, xs, rfl, e2, e3⟩ := hv
          rcases e2 with e2 | e2
          · exact .base (.tup (Gz_sub _ _ e2))
          · rcases ex_t (Gz_sub (th := th) (mu := mu) (H := H)) e2.2.2 with (z | ⟨ob, z⟩) | ⟨ob, its, n, z1, z2, _⟩
            · exact .base (.tup z)
            · exact .fTuple z
            · exact .kTuple z1 z2
        · cases hl : lstOf mu x with
          | none => rw [hl] at ht; cases ht
          | some es =>
            rw [hl] at ht
            cases (Option.some.inj ht)
            obtain ⟨a, xs, rfl, s1, r1⟩ := lst_at o hv hl
            exact .base (.lst s1)
  · cases e
end
end Eb

/-! Eb: three comparisons in a row; a tuple once. -/
namespace Eb
open PySem PySem.Spec L2 PyProof.Rows
open Evl (Ex ex_l ex_t)
/-- a < b < c < d, each asked once -/
def mCh3 (f f' f2 : Mu → D → D → Option D) (ma mb mc md : ME) : ME := bindM ma fun x => bindM mb fun y => bindM (lift fun mu => (f mu x y).bind boolOf) fun k => if k = true then
    bindM mc fun z => bindM (lift fun mu => (f' mu y z).bind boolOf) fun k => if k = true then bindM md fun u => lift fun mu => f2 mu z u else retM (.bl false)
  else retM (.bl false)
def tChain3 (r r' r2 : R2) (ta tb tc td : TE) : TE := fun σ H Q => ta σ H fun x H1 => tb σ H1 fun y H2 => r x y H2 fun z H3 => ∃ k, z = .bl k ∧ if k = true then
    tc σ H3 fun u H4 => r' y u H4 fun z2 H5 => ∃ k2, z2 = .bl k2 ∧ if k2 = true then td σ H5 fun w H6 => r2 u w H6 Q else Q (.bl false) H5
  else Q (.bl false) H3
section
variable {X : Cx} {g : Gam} {W : WX} {a b c d : Expr} {pos : Pos} {ma mb mc md : ME} {ta tb tc td : TE} {o1 o2 o3 : CmpOp} {r r' r2 : R2} {f f' f2 : Mu → D → D → Option D}
theorem pe_chain3 (h1 : OpR X (compareOp o1) r) (h2 : OpR X (compareOp o2) r') (h3 : OpR X (compareOp o3) r2) (ha : PE X a ta) (hb : PE X b tb) (hc : PE X c tc) (hd : PE X d td)
    (hm : lastMarks [o1, o2, o3] [b, c, d] = false := by with_unfolding_all rfl) : PE X (.Compare a [o1, o2, o3] [b, c, d] pos) (tChain3 r r' r2 ta tb tc td) := by
  refine ⟨fun pins s σ H Q I h => ?_⟩
  refine Compare_chain (thn (ha.run pins s σ H _ I h) fun v s1 ⟨x, H1, I1, r1, q1⟩ => ?_) hm
  refine chain_link (thn (hb.run pins s1 σ H1 _ I1 q1) fun u s2 ⟨y, H2, I2, r2, q2⟩ => thn (h1 pins s2 σ H2 x y v u _ I2 r1 r2 q2) fun z s3 ⟨z', H3, I3, r3, k, e, q3⟩ => ?_)
  subst e; cases r3
  refine wpAny_truthy_bool ?_
  cases k with
  | false => exact ite_ff ⟨.bl false, H3, I3, rfl, q3⟩
  | true =>
    refine ite_tt (chain_link (thn (hc.run pins s3 σ H3 _ I3 q3) fun w s4 ⟨y2, H4, I4, r4, q4⟩ => thn (h2 pins s4 σ H4 y y2 u w _ I4 r2 r4 q4) fun z2 s5 ⟨z2', H5, I5, r5, k2, e2, q5⟩ => ?_))
    subst e2; cases r5
    refine wpAny_truthy_bool ?_
    cases k2 with
    | false => exact ite_ff ⟨.bl false, H5, I5, rfl, q5⟩
    | true => exact ite_tt (chain_last (thn (hd.run pins s5 σ H5 _ I5 q5) fun w2 s6 ⟨y3, H6, I6, r6, q6⟩ => h3 pins s6 σ H6 y2 y3 w w2 Q I6 r4 r6 q6))
theorem pt_chain3 (h1 : OpR X (compareOp o1) r) (h2 : OpR X (compareOp o2) r') (h3 : OpR X (compareOp o3) r2) (ha : PE X a ta) (hb : PE X b tb) (hc : PE X c tc) (hd : PE X d td)
    (hm : lastMarks [o1, o2, o3] [b, c, d] = false := by with_unfolding_all rfl) : PT X (.Compare a [o1, o2, o3] [b, c, d] pos) (tTest (tChain3 r r' r2 ta tb tc td)) := by
  refine ⟨fun pins s σ H Q I h => ?_⟩
  refine isTrue_chain (thn (ha.run pins s σ H _ I h) fun v s1 ⟨x, H1, I1, r1, q1⟩ => ?_) hm
  refine test_link (thn (hb.run pins s1 σ H1 _ I1 q1) fun u s2 ⟨y, H2, I2, r2, q2⟩ => thn (h1 pins s2 σ H2 x y v u _ I2 r1 r2 q2) fun z s3 ⟨z', H3, I3, r3, k, e, q3⟩ => ?_)
  subst e; cases r3
  refine wpAny_truthy_bool ?_
  cases k with
  | false =>
    obtain ⟨k', e', q'⟩ := q3
    cases e'
    exact ite_ff ⟨H3, I3, q'⟩
  | true =>
    refine ite_tt (test_link (thn (hc.run pins s3 σ H3 _ I3 q3) fun w s4 ⟨y2, H4, I4, r4, q4⟩ => thn (h2 pins s4 σ H4 y y2 u w _ I4 r2 r4 q4) fun z2 s5 ⟨z2', H5, I5, r5, k2, e2, q5⟩ => ?_))
    subst e2; cases r5
    refine wpAny_truthy_bool ?_
    cases k2 with
    | false =>
      obtain ⟨k', e', q'⟩ := q5
      cases e'
      exact ite_ff ⟨H5, I5, q'⟩
    | true =>
      refine ite_tt (test_last (thn (hd.run pins s5 σ H5 _ I5 q5) fun w2 s6 ⟨y3, H6, I6, r6, q6⟩ => thn (h3 pins s6 σ H6 y2 y3 w w2 _ I6 r4 r6 q6) fun z3 s7 ⟨z3', H7, I7, r7, k3, e3, q7⟩ => ?_))
      subst e3; cases r7
      exact wpAny_truthy_bool ⟨H7, I7, q7⟩
theorem lift_bool {f : Mu → D → D → Option D} {x y : D} {rh : Rho} {mu mu' : Mu} {s : Rs Bool} (e : (lift fun mu => (f mu x y).bind boolOf) rh mu = some (s, mu')) : ∃ k, f mu x y = some (.bl k) ∧ s = .ok k ∧ mu' = mu := by
  have e : Option.map (fun a => (Rs.ok a, mu)) ((f mu x y).bind boolOf) = some (s, mu') := e
  cases hf : f mu x y with
  | none => rw [hf] at e; cases e
  | some dk =>
    rw [hf] at e
    cases dk with
    | bl k =>
      cases (Option.some.inj e)
      exact ⟨k, rfl, rfl, rfl⟩
    | _ => cases e
theorem can_chain3 (hi : OpImp g r f) (hi' : OpImp g r' f') (hi2 : OpImp g r2 f2) {σ : L2.St} {H : Hp} {Q : VK} (h : canE g W (mCh3 f f' f2 ma mb mc md) σ H Q) : tChain3 r r' r2 (canE g W ma) (canE g W mb) (canE g W mc) (canE g W md) σ H Q := by
  refine can.imp (can_bind (R := RE g) h) fun x H1 ⟨dx, rh, mu1, th1, hx, r1, h1⟩ => ⟨rh, mu1, th1, r1, ?_⟩
  refine (canAt_bind (R := RE g) r1 h1).imp fun y H2 ⟨dy, mu2, th2, f2', hy, r2', h2⟩ => ?_
  obtain ⟨s, mu3, e3, q3⟩ := canAt_bind (R := RT) r2' h2
  obtain ⟨k, hf, rfl, rfl⟩ := lift_bool e3
  refine hi th2 mu3 H2 dx dy x y (.bl k) r2'.ok (hx.mono f2'.pf f2'.ex) hy hf _ fun w H3 ex hw => ⟨k, hw, ?_⟩
  obtain ⟨k', mu4, th4, f4, hk, r4, h4⟩ := q3 th2 k H3 (Fw.heap r2'.ok ex) rfl
  subst hk
  cases k' with
  | false => exact canAt_ret (R := RE g) r4 h4 th4 (.bl false) H3 (Fw.refl r4.ok) rfl
  | true =>
    refine ⟨rh, mu4, th4, r4, (canAt_bind (R := RE g) r4 h4).imp fun z H5 ⟨dz, mu5, th5, f5, hz, r5, h5⟩ => ?_⟩
    obtain ⟨s6, mu6, e6, q6⟩ := canAt_bind (R := RT) r5 h5
    obtain ⟨k2, hf2, rfl, rfl⟩ := lift_bool e6
    refine hi' th5 mu6 H5 dy dz y z (.bl k2) r5.ok (hy.mono (f4.trans f5).pf (f4.trans f5).ex) hz hf2 _ fun w2 H6 ex2 hw2 => ⟨k2, hw2, ?_⟩
    obtain ⟨k3, mu7, th7, f7, hk3, r7, h7⟩ := q6 th5 k2 H6 (Fw.heap r5.ok ex2) rfl
    subst hk3
    cases k3 with
    | false => exact canAt_ret (R := RE g) r7 h7 th7 (.bl false) H6 (Fw.refl r7.ok) rfl
    | true =>
      refine ⟨rh, mu7, th7, r7, (canAt_bind (R := RE g) r7 h7).imp fun u H8 ⟨du, mu8, th8, f8, hu, r8, h8⟩ => ?_⟩
      obtain ⟨d9, e9, q9⟩ := canAt_lift r8 h8
      exact hi2 th8 mu8 H8 dz du z u d9 r8.ok (hz.mono (f7.trans f8).pf (f7.trans f8).ex) hu e9 Q fun w' H' ex' hw' => q9 th8 w' H' (Fw.heap r8.ok ex') hw'
theorem pm_chain3 (h1 : OpM X g (compareOp o1) f) (h2 : OpM X g (compareOp o2) f') (h3 : OpM X g (compareOp o3) f2) (ha : PE X a (canE g W ma)) (hb : PE X b (canE g W mb)) (hc : PE X c (canE g W mc)) (hd : PE X d (canE g W md))
    (hm : lastMarks [o1, o2, o3] [b, c, d] = false := by with_unfolding_all rfl) : PE X (.Compare a [o1, o2, o3] [b, c, d] pos) (canE g W (mCh3 f f' f2 ma mb mc md)) := by
  obtain ⟨r, a1, b1⟩ := h1.ex
  obtain ⟨r', a2, b2⟩ := h2.ex
  obtain ⟨r2, a3, b3⟩ := h3.ex
  exact PEimp (pe_chain3 a1 a2 a3 ha hb hc hd hm) fun _ _ _ => can_chain3 b1 b2 b3
theorem pmt_chain3 (h1 : OpM X g (compareOp o1) f) (h2 : OpM X g (compareOp o2) f') (h3 : OpM X g (compareOp o3) f2) (ha : PE X a (canE g W ma)) (hb : PE X b (canE g W mb)) (hc : PE X c (canE g W mc)) (hd : PE X d (canE g W md))
    (hm : lastMarks [o1, o2, o3] [b, c, d] = false := by with_unfolding_all rfl) : PT X (.Compare a [o1, o2, o3] [b, c, d] pos) (canT g W (mTest (mCh3 f f' f2 ma mb mc md))) := by
  obtain ⟨r, a1, b1⟩ := h1.ex
  obtain ⟨r', a2, b2⟩ := h2.ex
  obtain ⟨r2, a3, b3⟩ := h3.ex
  exact PTimp (pt_chain3 a1 a2 a3 ha hb hc hd hm) fun _ _ _ h => can_chain3 b1 b2 b3 (can_test h)
end
/-! ### a tuple once is itself -/
theorem tuple_mul1 (l : Addr) (items : Array Value) (n : Nat) (dd : Option Addr) (sl : Array (Option Value)) (u : Tok) :
    Meets (Builtin.«tuple.__mul__» ⟨[.ref l, .int 1 u], []⟩) (fun _ R s => s.heap.get? l = some { cls := .type "tuple", dict := dd, data := .seq items n, slots := sl } ∧ R (.ok (.ret (Value.ref l))) s) :=
  .of_wp fun prog w A R s h => by
    obtain ⟨hp, g, d, tk, os⟩ := s
    obtain ⟨hl, h⟩ := h
    have f1 := AutoSeq1.idx_int
    wp_walk using wpAny_loadPart' hl
    exact ⟨_, rfl, h⟩
def rRepT1 (K : PySem.W.Frag) : R2 := fun x y H Q => ∃ l xs, x = .ref l ∧ y = .int 1 ∧ SqT K H l xs ∧ Q (.ref l) H
section
variable {X : Cx} {g : Gam}
theorem op_repT1 : OpR X (binaryOp .Mult) (rRepT1 X.K) := by
  intro pins s σ H x y v u Q I rx ry h
  obtain ⟨l, xs, rfl, rfl, hT, q⟩ := h
  cases rx
  obtain ⟨t, rfl⟩ := ry
  obtain ⟨its, r, ⟨⟨cls, dd, data, sl⟩, ho, hc, n, hd⟩, hs⟩ := I.tuple hT
  simp only at hc hd
  subst hc hd
  exact wpAny_binaryOp_repeat_ref (T := "tuple") (U := "int") (by decide) ⟨_, ho, rfl⟩ (fun s' => typeIs_int s' 1 t) noFill_tuple_mul F.fills_int_mul F.slot_int_rmul repeat_tuple F.slot_int_index.lookup
    (call_meets F.slot_int_rmul (typeIs_int s 1 t) F.entry_int_rmul (F.args_int_rmul_2 _ _) (int_rmul_tuple 1 t l its.toArray n dd sl)
      ⟨ho, rfl, ⟨_, ho, rfl⟩, call_meets F.slot_tuple_mul ⟨_, ho, rfl⟩ F.entry_tuple_mul (F.args_tuple_mul_2 _ _) (tuple_mul1 l its.toArray n dd sl t) ⟨ho, .ref l, H, I, rfl, q⟩⟩)
/-- a product, a tuple once too -/
def mul1D (mu : Mu) : D → D → Option D
  | .tup a, .int k => if k = 1 then some (.tup a) else mulD mu (.tup a) (.int k)
  | x, y => mulD mu x y
theorem om_mul1 (hK : X.K = g.K) : OpM X g (binaryOp .Mult) mul1D := by
  refine OpM.or (f1 := fun _ x y => match x, y with | .tup a, .int k => if k = 1 then some (.tup a) else none | _, _ => none) (.mk' op_repT1 fun th mu H x y v u d o hx hy e Q q => ?_) (om_mul hK) fun mu x y d e => ?_
  · split at e
    · split at e
      · rename_i hk
        subst hk
        cases (Option.some.inj e)
        obtain ⟨a1, xs, rfl, s1, r1, _⟩ := sqT_of hx
        exact ⟨a1, xs, rfl, hy, by rw [hK]; exact s1, q _ H (fun _ _ z => z) hx⟩
      · cases e
    · cases e
  · unfold mul1D at e
    split at e
    · rename_i a k
      by_cases hk : k = 1
      · rw [if_pos hk] at e
        exact .inl (by rw [if_pos hk]; exact e)
      · rw [if_neg hk] at e
        exact .inr e
    · exact .inr e
end
end Eb

/-! Eb: defs whose cells stay with them. -/
namespace Eb
open PySem L2
open Evl (Ex ex_l ex_t)
mutual
/-- no cell within -/
def cf : D → Bool
  | .tup ds => cfL ds
  | .lst ds => cfL ds
  | .ins _ ds => cfL ds
  | .cel _ => false
  | .non => true
  | .bl _ => true
  | .int _ => true
  | .str _ => true
  | .set _ => true
  | .scr _ => true
  | .ty _ => true
  | .cls _ => true
  | .dic _ ds => cfL ds
  | .exn _ _ => false
def cfL : List D → Bool
  | [] => true
  | d :: ds => cf d && cfL ds
end
mutual
theorem Rp.cfree {g : Gam} {th th' : Th} {G : Hp} : ∀ (d : D) (v : V), cf d = true → Rp g th G d v → Rp g th' G d v
  | .non, v, _, h => h
  | .bl _, v, _, h => h
  | .int _, v, _, h => h
  | .str _, v, _, h => h
  | .tup ds, v, c, h => by
    obtain ⟨a, xs, e1, e2, e3⟩ := h
    exact ⟨a, xs, e1, e2, RpL.cfree ds xs c e3⟩
  | .lst ds, v, c, h => by
    obtain ⟨a, xs, e1, e2, e3⟩ := h
    exact ⟨a, xs, e1, e2, RpL.cfree ds xs c e3⟩
  | .ins k ds, v, c, h => by
    obtain ⟨a, dx, ys, xs, e1, e2, e3, e4, e5⟩ := h
    exact ⟨a, dx, ys, xs, e1, e2, e3, e4, RpL.cfree ds xs c e5⟩
  | .set ns, v, _, h => h
  | .cel k, v, c, h => by cases c
  | .scr ns, v, _, h => h
  | .ty _, v, _, h => h
  | .cls _, v, _, h => h
  | .dic ks ds, v, c, h => by
    obtain ⟨a, o, xs, e1, e2, e3, e4, e5, e6⟩ := h
    exact ⟨a, o, xs, e1, e2, e3, e4, e5, RpL.cfree ds xs c e6⟩
  | .exn _ _, v, c, h => by cases c
theorem RpL.cfree {g : Gam} {th th' : Th} {G : Hp} : ∀ (ds : List D) (vs : List V), cfL ds = true → RpL g th G ds vs → RpL g th' G ds vs
  | [], vs, _, h => h
  | d :: ds, vs, c, h => by
    obtain ⟨v, r, e1, e2, e3⟩ := h
    have c : (cf d && cfL ds) = true := c
    rw [Bool.and_eq_true] at c
    exact ⟨v, r, e1, Rp.cfree d v c.1 e2, RpL.cfree ds r c.2 e3⟩
end
def cfR : Rs D → Bool
  | .ok d => cf d
  | .er x => cfL x.fs
/-- a def that is handed no cell and hands none back: its own cells are forgotten -/
def mPure (f : Phi) : Phi := fun ds mu => if cfL ds = true then match f ds [] with
    | some (r, _) => if cfR r = true then some (r, mu) else none
    | none => none
  else none
/-- all cells hidden -/
def hideAll (th : Th) (mu : Mu) : Th := ⟨[], own th.ids mu ++ th.hid⟩
section
variable {g : Gam} {th th1 : Th} {mu mu1 : Mu} {H H1 : Hp}
theorem gz_hideAll : Gz (hideAll th mu) [] H = Gz th mu H := by
  funext a
  unfold Gz hideAll
  by_cases m : a ∈ own th.ids mu ∨ a ∈ th.hid
  · rw [if_pos m, if_pos (.inr (List.mem_append.mpr m))]
  · rw [if_neg m, if_neg]
    rintro (z | z)
    · simp [own] at z
    · exact m (List.mem_append.mp z)
theorem ok_hideAll (o : Ok g th mu H) : Ok g (hideAll th mu) [] H := ⟨rfl, List.nodup_nil, fun i a c e _ => by simp [hideAll] at e, fun a m => ⟨by simp [hideAll, own], by
  rcases List.mem_append.mp m with m | m
  · exact o.solid m
  · exact (o.hid a m).2⟩⟩
theorem gz_back (h : ∀ a, a ∈ own th.ids mu ∨ a ∈ th.hid → a ∈ own th1.ids mu1 ∨ a ∈ th1.hid) : Ex (Gz th1 mu1 H1) (Gz th mu H1) := fun a u q => by
  unfold Gz at q ⊢
  by_cases m : a ∈ own th1.ids mu1 ∨ a ∈ th1.hid
  · rw [if_pos m] at q; cases q
  · rw [if_neg m] at q
    rw [if_neg fun z => m (h a z)]
    exact q
/-- the caller's cells are as they were -/
theorem fw_hideAll (o : Ok g th mu H) (f : Fw g (hideAll th mu) [] H th1 mu1 H1) : Fw g th mu H th mu H1 ∧ Ex (Gz th1 mu1 H1) (Gz th mu H1) := by
  have eb : Ex (Gz th1 mu1 H1) (Gz th mu H1) := gz_back fun a m => .inr (by rw [f.pf.hid]; exact List.mem_append.mpr m)
  have ex : Ex (Gz th mu H) (Gz th mu H1) := by
    have q := f.ex
    rw [gz_hideAll] at q
    exact q.trans eb
  have hd : ∀ a, a ∈ own th.ids mu ∨ a ∈ th.hid → H1 a = H a := fun a m => f.hd a (List.mem_append.mpr m)
  refine ⟨⟨Pfx.refl, ⟨o.len, o.nod, fun i a c e1 e2 => ?_, fun a m => ?_⟩, ex, fun a m => hd a (.inr m)⟩, eb⟩
  · by_cases l : c.live = true
    · exact (o.cel i a c e1 e2).mono Pfx.refl ex (hd a (.inl (own_mem.mpr ⟨i, c, e1, e2, l⟩)))
    · cases c with
      | dead => trivial
      | _ => exact absurd rfl l
  · obtain ⟨n, u, hu, su⟩ := o.hid a m
    exact ⟨n, u, by rw [hd a (.inr m)]; exact hu, su⟩
theorem RpX.cfree {G : Hp} {x : Exn} {cls : Value} {dd : Option Addr} (c : cfL x.fs = true) (h : RpX g th G x cls dd) : RpX g th1 G x cls dd := by
  obtain ⟨e, h | ⟨da, ys, xs, e1, e2, e3, e4⟩⟩ := h
  · exact ⟨e, .inl h⟩
  · exact ⟨e, .inr ⟨da, ys, xs, e1, e2, e3, RpL.cfree _ _ c e4⟩⟩
theorem RpX.mono {G G' : Hp} {x : Exn} {cls : Value} {dd : Option Addr} (ex : Ex G G') (h : RpX g th G x cls dd) : RpX g th G' x cls dd := by
  obtain ⟨e, h | ⟨da, ys, xs, e1, e2, e3, e4⟩⟩ := h
  · exact ⟨e, .inl h⟩
  · exact ⟨e, .inr ⟨da, ys, xs, e1, ex _ _ e2, e3, RpL.mono Pfx.refl ex _ _ e4⟩⟩
theorem spM_pure {f : Phi} {vs : List V} {Q : VK} {E : XK} (h : spM g (mPure f) vs H Q E) : spM g f vs H Q E := by
  obtain ⟨ds, mu, th, r, mu', o, hd, e, q⟩ := h
  unfold mPure at e
  split at e
  · rename_i hc
    split at e
    · rename_i r' mu1 hf
      split at e
      · rename_i hr
        cases (Option.some.inj e)
        refine ⟨ds, [], hideAll th mu, r, mu1, ok_hideAll o, by rw [gz_hideAll]; exact RpL.cfree _ _ hc hd, hf, ?_⟩
        cases r with
        | ok d =>
          intro th' v H' fw hv
          obtain ⟨f1, ex⟩ := fw_hideAll o fw
          exact q th v H' f1 ((Rp.cfree (th' := th) d v hr hv).mono Pfx.refl ex)
        | er x =>
          intro th' cls dd H' fw hx
          obtain ⟨f1, ex⟩ := fw_hideAll o fw
          exact q th cls dd H' f1 ((hx.cfree (th1 := th) hr).mono ex)
      · cases e
    · cases e
  · cases e
theorem FnOk.pure {P : Program} {w : World} {K : PySem.W.Frag} {mg : Str → Option Value} {base : Heap} {CX : CXT} {k : Nat} {f : Addr} {fd : FuncData} {ps : List Str} {ph : Phi} (F : FnOk P w K mg base CX k f fd ps (spM g ph)) : FnOk P w K mg base CX k f fd ps (spM g (mPure ph)) :=
  F.imp fun _ _ _ _ h => spM_pure h
/-! ### defs that are handed one cell, first -/
def cfC : Cell → Bool
  | .lst ds => cfL ds
  | _ => false
def mRow (f : Phi) : Phi := fun ds mu => match ds with
  | .cel k :: rest => match mu[k]? with
    | some c => if cfL rest = true ∧ cfC c = true then match f (.cel 0 :: rest) [c] with
        | some (r, c' :: _) => if cfR r = true ∧ cfC c' = true then some (r, mu.set k c') else none
        | _ => none
      else none
    | none => none
  | _ => none
/-- all cells hidden but that at a -/
def hideBut (th : Th) (mu : Mu) (a : Addr) : Th := ⟨[a], (own th.ids mu).filter (fun b => decide (b ≠ a)) ++ th.hid⟩
theorem cfC_live {c : Cell} (h : cfC c = true) : c.live = true := by
  cases c with
  | lst ds => rfl
  | _ => cases h
theorem mem_hideBut {a b : Addr} {k : Nat} {c : Cell} (ha : th.ids[k]? = some a) (hc : mu[k]? = some c) (l : c.live = true) {c' : Cell} (l' : c'.live = true) {more : Mu} {ids : List Addr} : (b ∈ own th.ids mu ∨ b ∈ th.hid) ↔ (b ∈ own [a] [c'] ∨ b ∈ (hideBut th mu a).hid) := by
  have ma : a ∈ own th.ids mu := own_mem.mpr ⟨k, c, ha, hc, l⟩
  have eo : own [a] [c'] = [a] := by simp [own, l']
  rw [eo]
  unfold hideBut
  simp only [List.mem_append, List.mem_filter, decide_eq_true_eq, List.mem_singleton]
  by_cases hb : b = a
  · subst hb; simp [ma]
  · simp [hb]
theorem gz_hideBut {a : Addr} {k : Nat} {c : Cell} (ha : th.ids[k]? = some a) (hc : mu[k]? = some c) (l : c.live = true) : Gz (hideBut th mu a) [c] H = Gz th mu H := by
  funext b
  unfold Gz
  have q : (b ∈ own th.ids mu ∨ b ∈ th.hid) ↔ (b ∈ own (hideBut th mu a).ids [c] ∨ b ∈ (hideBut th mu a).hid) := mem_hideBut (b := b) (more := []) (ids := []) ha hc l l
  by_cases m : b ∈ own th.ids mu ∨ b ∈ th.hid
  · rw [if_pos m, if_pos (q.mp m)]
  · rw [if_neg m, if_neg fun z => m (q.mpr z)]
theorem CellOk.cfree {G : Hp} {a : Addr} {c : Cell} (h : cfC c = true) (x : CellOk g th G H a c) : CellOk g th1 G H a c := by
  cases c with
  | lst ds =>
    obtain ⟨xs, e1, e2⟩ := x
    exact ⟨xs, e1, RpL.cfree _ _ h e2⟩
  | _ => cases h
theorem ok_hideBut (o : Ok g th mu H) {a : Addr} {k : Nat} {c : Cell} (ha : th.ids[k]? = some a) (hc : mu[k]? = some c) (hf : cfC c = true) : Ok g (hideBut th mu a) [c] H := by
  have l := cfC_live hf
  have ma : a ∈ own th.ids mu := own_mem.mpr ⟨k, c, ha, hc, l⟩
  have eo : own (hideBut th mu a).ids [c] = [a] := by simp [hideBut, own, l]
  refine ⟨rfl, by rw [eo]; simp, fun i b d e1 e2 => ?_, fun b m => ?_⟩
  · cases i with
    | zero =>
      have q1 : a = b := by simpa [hideBut] using e1
      have q2 : c = d := by simpa using e2
      subst q1 q2
      rw [gz_hideBut ha hc l]
      exact CellOk.cfree hf (o.cel k a c ha hc)
    | succ i => simp at e2
  · rw [eo]
    have m : b ∈ (own th.ids mu).filter (fun b => decide (b ≠ a)) ++ th.hid := m
    rcases List.mem_append.mp m with m | m
    · obtain ⟨m1, m2⟩ := List.mem_filter.mp m
      exact ⟨by simpa using m2, o.solid m1⟩
    · obtain ⟨n, u⟩ := o.hid b m
      exact ⟨fun z => n (by rw [List.mem_singleton.mp z]; exact ma), u⟩
theorem spM_row {f : Phi} {vs : List V} {Q : VK} {E : XK} (h : spM g (mRow f) vs H Q E) : spM g f vs H Q E := by
  obtain ⟨ds, mu, th, r, mu', o, hd, e, q⟩ := h
  unfold mRow at e
  split at e
  · rename_i k rest
    split at e
    · rename_i c hc
      split at e
      · rename_i hcf
        split at e
        · rename_i r' c' more hf
          split at e
          · rename_i hr
            cases (Option.some.inj e)
            obtain ⟨v0, vr, rfl, ⟨a, ea, ha⟩, hd2⟩ := hd
            have l := cfC_live hcf.2
            have l' := cfC_live hr.2
            have back : ∀ th' H', Fw g (hideBut th mu a) [c] H th' (c' :: more) H' → Fw g th mu H th (mu.set k c') H' ∧ Ex (Gz th' (c' :: more) H') (Gz th (mu.set k c') H') := fun th' H' fw => by
              obtain ⟨ids, ei⟩ := fw.pf.ids
              have ei : th'.ids = a :: ids := ei
              have eo : own th.ids (mu.set k c') = own th.ids mu := own_set_live hc (l.trans l'.symm)
              have am : a ∈ own th'.ids (c' :: more) := own_mem.mpr ⟨0, c', by rw [ei]; rfl, rfl, l'⟩
              have hm : ∀ b, b ∈ own th.ids (mu.set k c') ∨ b ∈ th.hid → b ∈ own th'.ids (c' :: more) ∨ b ∈ th'.hid := fun b m => by
                rw [eo] at m
                rw [fw.pf.hid]
                rcases (mem_hideBut (b := b) (more := []) (ids := []) ha hc l l').mp m with z | z
                · have : b = a := by simpa [own, l'] using z
                  subst this
                  exact .inl am
                · exact .inr z
              have eb : Ex (Gz th' (c' :: more) H') (Gz th (mu.set k c') H') := gz_back hm
              have ex : Ex (Gz th mu H) (Gz th (mu.set k c') H') := by
                have z := fw.ex
                rw [gz_hideBut ha hc l] at z
                exact z.trans eb
              have hh : ∀ b, b ∈ own th.ids mu ∨ b ∈ th.hid → b ≠ a → H' b = H b := fun b m nb => by
                refine fw.hd b ?_
                rcases (mem_hideBut (b := b) (more := []) (ids := []) ha hc l l').mp m with z | z
                · have : b = a := by simpa [own, l'] using z
                  exact absurd this nb
                · exact z
              have na : ∀ b ∈ th.hid, b ≠ a := fun b m z => (o.hid b m).1 (by rw [z]; exact own_mem.mpr ⟨k, c, ha, hc, l⟩)
              refine ⟨⟨Pfx.refl, ⟨by simp [o.len], by rw [eo]; exact o.nod, fun i b d e1 e2 => ?_, fun b m => ?_⟩, ex, fun b m => hh b (.inr m) (na b m)⟩, eb⟩
              · by_cases hi : i = k
                · subst hi
                  rw [ha] at e1
                  cases e1
                  have : c' = d := by
                    rw [List.getElem?_set_self ((List.getElem?_eq_some_iff.mp hc).1)] at e2
                    exact Option.some.inj e2
                  subst this
                  have z := fw.ok.cel 0 a c' (by rw [ei]; rfl) rfl
                  exact CellOk.cfree (th := th') hr.2 (z.mono Pfx.refl eb rfl)
                · rw [List.getElem?_set_ne (Ne.symm hi)] at e2
                  by_cases ld : d.live = true
                  · have nb : b ≠ a := by
                      rintro rfl
                      exact hi (own_inj o.nod e1 ha e2 hc ld l)
                    exact (o.cel i b d e1 e2).mono Pfx.refl ex (hh b (.inl (own_mem.mpr ⟨i, d, e1, e2, ld⟩)) nb)
                  · cases d with
                    | dead => trivial
                    | _ => exact absurd rfl ld
              · obtain ⟨n, u, hu, su⟩ := o.hid b m
                exact ⟨by rw [eo]; exact n, u, by rw [hh b (.inr m) (na b m)]; exact hu, su⟩
            refine ⟨.cel 0 :: rest, [c], hideBut th mu a, r, c' :: more, ok_hideBut o ha hc hcf.2, ⟨v0, vr, rfl, ⟨a, ea, rfl⟩, by rw [gz_hideBut ha hc l]; exact RpL.cfree _ _ hcf.1 hd2⟩, hf, ?_⟩
            cases r with
            | ok d =>
              intro th' v H' fw hv
              obtain ⟨f1, ex⟩ := back th' H' fw
              exact q th v H' f1 ((Rp.cfree (th' := th) d v hr.1 hv).mono Pfx.refl ex)
            | er x =>
              intro th' cls dd H' fw hx
              obtain ⟨f1, ex⟩ := back th' H' fw
              exact q th cls dd H' f1 ((hx.cfree (th1 := th) hr.1).mono ex)
          · cases e
        · cases e
      · cases e
    · cases e
  · cases e
theorem FnOk.row {P : Program} {w : World} {K : PySem.W.Frag} {mg : Str → Option Value} {base : Heap} {CX : CXT} {k : Nat} {f : Addr} {fd : FuncData} {ps : List Str} {ph : Phi} (F : FnOk P w K mg base CX k f fd ps (spM g ph)) : FnOk P w K mg base CX k f fd ps (spM g (mRow ph)) :=
  F.imp fun _ _ _ _ h => spM_row h
end
end Eb

/-! Eb: defs of the text, what their callers ask of them. -/
namespace Eb
open PySem L2
open Evl (Ex ex_l ex_t)
/-- the own classes' attributes: 0 House, 1 Search, 2 BadHouse, 3 BadStep, 4 Barred, 5 Left, 6 BadText, 7 BookError -/
def fldsT : Nat → List Str
  | 0 => ["zones", "hours", "kept_doors", "kept_people"]
  | 1 => ["house", "hour", "rows", "by"]
  | 2 => ["number", "word"]
  | 4 => ["at", "number", "rule"]
  | 5 => ["number"]
  | 6 => ["row"]
  | _ => []
abbrev gam (P : Program) (w : World) (K : PySem.W.Frag) (cls : Nat → Addr) : Gam := ⟨P, w, K, cls, fldsT, none⟩
/-- a def stands in the text -/
structure DefAt (K : PySem.W.Frag) (mg : Str → Option Value) (x : Str) (st : Stmt) (ps : List Str) : Prop where
  ex : ∃ f fd, mg x = some (.ref f) ∧ PySem.W.keepIn K (.ref f) = true ∧ Fun K x x st f fd ∧ Binds K fd ps []
/-- a method, an __init__ -/
structure MethAt (K : PySem.W.Frag) (C : Addr) (x qual : Str) (st : Stmt) (ps : List Str) : Prop where
  ex : ∃ f fd, Meth K C x f ∧ Fun K x qual st f fd ∧ Binds K fd ps []
structure InitAt (K : PySem.W.Frag) (C : Addr) (qual : Str) (st : Stmt) (ps : List Str) : Prop where
  ex : ∃ f fd, L2.Mk K C f ∧ Fun K "__init__" qual st f fd ∧ Binds K fd ps []
/-- a class and its attributes, none of them a name of the class -/
structure ClsT (K : PySem.W.Frag) (C : Addr) (fs : List Str) : Prop where
  cl : Cls K C
  na : ∀ f ∈ fs, NoAttr K C f
/-- a def keeps its promise -/
structure Cal (P : Program) (w : World) (K : PySem.W.Frag) (mg : Str → Option Value) (base : Heap) (cls : Nat → Addr) (x : Str) (k : Nat) (ps : List Str) (ph : Phi) : Prop where
  ex : ∃ f fd, mg x = some (.ref f) ∧ PySem.W.keepIn K (.ref f) = true ∧ Binds K fd ps [] ∧ FnOk P w K mg base (L2.CX P w) k f fd ps (spM (gam P w K cls) ph)
structure MCal (P : Program) (w : World) (K : PySem.W.Frag) (mg : Str → Option Value) (base : Heap) (cls : Nat → Addr) (c : Nat) (x : Str) (k : Nat) (ps : List Str) (ph : Phi) : Prop where
  ex : ∃ f fd, Meth K (cls c) x f ∧ Binds K fd ps [] ∧ FnOk P w K mg base (L2.CX P w) k f fd ps (spM (gam P w K cls) ph)
structure ICal (P : Program) (w : World) (K : PySem.W.Frag) (mg : Str → Option Value) (base : Heap) (cls : Nat → Addr) (c : Nat) (k : Nat) (ps : List Str) (ph : Phi) : Prop where
  ex : ∃ f fd, L2.Mk K (cls c) f ∧ Binds K fd ps [] ∧ FnOk P w K mg base (L2.CX P w) k f fd ps (spM (gam P w K cls) ph)
section
variable {P : Program} {w : World} {K : PySem.W.Frag} {mg : Str → Option Value} {base : Heap} {cls : Nat → Addr} {k : Nat} {ps : List Str} {ph : Phi} {x : Str}
theorem Cal.pure (h : Cal P w K mg base cls x k ps ph) : Cal P w K mg base cls x k ps (mPure ph) := by
  obtain ⟨f, fd, h1, h2, h3, h4⟩ := h.ex
  exact ⟨f, fd, h1, h2, h3, Eb.FnOk.pure h4⟩
theorem Cal.row (h : Cal P w K mg base cls x k ps ph) : Cal P w K mg base cls x k ps (mRow ph) := by
  obtain ⟨f, fd, h1, h2, h3, h4⟩ := h.ex
  exact ⟨f, fd, h1, h2, h3, Eb.FnOk.row h4⟩
theorem MCal.pure {c : Nat} (h : MCal P w K mg base cls c x k ps ph) : MCal P w K mg base cls c x k ps (mPure ph) := by
  obtain ⟨f, fd, h1, h2, h3⟩ := h.ex
  exact ⟨f, fd, h1, h2, Eb.FnOk.pure h3⟩
/-- the end of a def whose outcome is known to be no exception -/
def spM0 (g : Gam) (f : Phi) : Sp := fun vs H Q _ => ∃ ds mu th d mu', Ok g th mu H ∧ RpL g th (Gz th mu H) ds vs ∧ f ds mu = some (.ok d, mu') ∧ ∀ th' v H', Fw g th mu H th' mu' H' → Rp g th' (Gz th' mu' H') d v → Q v H'
theorem okL {g : Gam} {x qual : Str} {st : Stmt} {f : Addr} {fd : FuncData} {N ps : List Str} {k np n : Nat} {b : MS} (F : Fun K x qual st f fd) (S : FnScope N ps (defScope st)) (hN : N.length = n) (hps : ps.length = np) (hnp : np ≤ n)
    (h : ∀ (cdv : Value) (A : Around) (outer : List Env) (s : Shared) (H : Hp) (E : XK), Room k (A.deeper (PyProof.Rows.envOfC qual (defScope st) s.heap.objs.size f cdv)) →
      PSs (cxOf CX0 P w K mg base N qual (defScope st) f cdv A outer s H E).nox (defBody st) (canS g W0 b)) : FnOk P w K mg base CX0 (k + 1) f fd ps (spM0 g (mBody np n b)) := by
  refine F.ok S (fun vs H Q E ⟨ds, mu, th, r, mu', o, hd, e, _⟩ => by rw [hps, hd.length]; exact mBody_len e) fun cdv A outer s H vs Q E hr hs => ⟨_, h cdv A outer s H E hr, ?_⟩
  obtain ⟨ds, mu, th, d, mu', o, hd, e, q⟩ := hs
  have hl := mBody_len e
  unfold mBody at e
  rw [if_pos hl] at e
  have rl := start_rl (N := N) o hd hl (by rw [hN]; exact hnp)
  rw [hN] at rl
  refine ⟨_, mu, th, rl, ?_⟩
  split at e
  · rename_i r' mu1 he
    cases (Option.some.inj e)
    exact ⟨_, _, he, fun th' σ' H' f _ => q th' .non H' f rfl⟩
  · rename_i d mu1 he
    cases (Option.some.inj e)
    exact ⟨_, _, he, fun th' v H' f hv => q th' v H' f hv⟩
  · rename_i x r' mu1 he
    cases (Option.some.inj e)
  · cases e
theorem ClsT.ok {P : Program} {w : World} {K : PySem.W.Frag} {cls : Nat → Addr} {c : Nat} (T : ClsT K (cls c) (fldsT c)) (h : c < 8) : ClsOk (gam P w K cls) c := by
  have h1 : (fldsT c).Nodup ∧ (fldsT c).length < 1000 := by
    rcases c with _ | _ | _ | _ | _ | _ | _ | _ | c <;> first | exact ⟨by decide +kernel, by decide +kernel⟩ | omega
  exact ⟨T.cl, h1.1, T.na, h1.2⟩
theorem bt_len : bootBuiltins "len" = some (.builtin "len") := by decide +kernel
theorem bt_list : bootBuiltins "list" = some (.type "list") := by decide +kernel
theorem bt_tuple : bootBuiltins "tuple" = some (.type "tuple") := by decide +kernel
theorem bt_sum : bootBuiltins "sum" = some (.builtin "sum") := by decide +kernel
theorem bt_int : bootBuiltins "int" = some (.type "int") := by decide +kernel
theorem bt_str : bootBuiltins "str" = some (.type "str") := by decide +kernel
theorem bt_set : bootBuiltins "set" = some (.type "set") := by decide +kernel
theorem bt_sorted : bootBuiltins "sorted" = some (.builtin "sorted") := by decide +kernel
theorem bt_min : bootBuiltins "min" = some (.builtin "min") := by decide +kernel
theorem bt_max : bootBuiltins "max" = some (.builtin "max") := by decide +kernel
theorem bt_isi : bootBuiltins "isinstance" = some (.builtin "isinstance") := by decide +kernel
theorem bt_dict : bootBuiltins "dict" = some (.type "dict") := by decide +kernel
/-- an int, a text, the tuple ("wait",) of the top -/
structure GInt (mg : Str → Option Value) (x : Str) (i : Int) : Prop where
  ex : ∃ t, mg x = some (.int i t)
structure GStr (mg : Str → Option Value) (x : Str) (z : Str) : Prop where
  ex : ∃ t, mg x = some (.str z t)
structure GWait (K : PySem.W.Frag) (mg : Str → Option Value) (x : Str) : Prop where
  ex : ∃ a o its n, mg x = some (.ref a) ∧ K.lookup a = some o ∧ o.cls = .type "tuple" ∧ o.data = .seq its n ∧ its.size ≤ sizeLine ∧ Vals [.str "wait"] its.toList
end
section
variable {X : Cx} {g : Gam} {W : WX} {x : Str} {pos : Pos}
theorem pm_gint {i : Int} (h : GInt X.mg x i) (hg : Gl X x := by rfl) (hd : (x == ("__debug__" : Str)) = false := by decide) : PE X (.Name x pos) (canE g W (mC (.int i))) := by
  obtain ⟨t, e⟩ := h.ex
  exact pm_glob (v := .int i) (fun _ _ => rfl) e ⟨t, rfl⟩ hg hd
theorem pm_gstr {z : Str} (h : GStr X.mg x z) (hg : Gl X x := by rfl) (hd : (x == ("__debug__" : Str)) = false := by decide) : PE X (.Name x pos) (canE g W (mC (.str z))) := by
  obtain ⟨t, e⟩ := h.ex
  exact pm_glob (v := .str z) (fun _ _ => rfl) e ⟨t, rfl⟩ hg hd
theorem pm_gwait (hK : X.K = g.K) (h : GWait X.K X.mg x) (hg : Gl X x := by rfl) (hd : (x == ("__debug__" : Str)) = false := by decide) : PE X (.Name x pos) (canE g W (mC (.tup [.str "wait"]))) := by
  obtain ⟨a, o, its, n, e, h1, h2, h3, h4, h5⟩ := h.ex
  refine pm_glob (v := .ref a) (fun th G => ⟨a, _, rfl, .inr ⟨rfl, rfl, ?_⟩, .str "wait", [], rfl, rfl, rfl⟩) e rfl hg hd
  rw [← hK]
  exact .inr ⟨o, its, n, h1, h2, h3, h4, h5⟩
/-- a built-in class as a value -/
theorem pm_bty {n : String} (hm : X.mg x = none) (hv : bootBuiltins x = some (.type n)) (hg : Gl X x := by rfl) (hn : x ≠ "__name__" := by decide) (hd : (x == ("__debug__" : Str)) = false := by decide) : PE X (.Name x pos) (canE g W (mC (.ty n))) :=
  PEimp (pe_bltn (v := .ty n) hg hm hv rfl hn hd) fun _ _ _ => can_c (d := .ty n) fun _ _ => rfl
end
end Eb
namespace Eb
open PySem L2
open Evl (Ex ex_l ex_t)
/-! ### lists that are made to be changed; a list that is changed no more -/
def mLstC (mr : M (List D)) : ME := bindM mr fun ds _ mu => (few ds).map fun es => (.ok (.cel mu.length), mu ++ [.lst es])
/-- the name in slot i holds a cell: its content is a value from now on -/
def sFrz (i : Nat) : MS := fun rh mu => match rh[i]? with
  | some (some d) => (frzD d mu).map fun p => (.nx (rh.set i (some p.1)), p.2)
  | _ => none
def sNever : MS := fun _ _ => none
section
variable {X : Cx} {g : Gam} {W : WX} {pos : Pos} {es : List Expr} {mr : M (List D)} {st : Stmt} {rest : List Stmt} {sb : MS}
theorem pm_lstC (h : PA X es (canA g W mr)) : PE X (.List es pos) (canE g W (mLstC mr)) :=
  PEimp (pe_lst h) fun σ H Q h => (can_bind (R := RA g) h).imp fun xs H1 ⟨ds, rh, mu1, th1, hx, r1, s, mu', e, q⟩ => by
    have e9 : (few ds).map (fun es => ((Rs.ok (.cel mu1.length) : Rs D), mu1 ++ [.lst es])) = some (s, mu') := e
    clear e
    cases hf : few ds with
    | none => rw [hf] at e9; cases e9
    | some es =>
      rw [hf] at e9
      obtain ⟨rfl, hl⟩ := few_eq hf
      cases (Option.some.inj e9)
      refine ⟨Evl.sz_of (by rw [hx.length]; exact hl), fun p hp => ?_⟩
      obtain ⟨f, hr⟩ := cell_new r1.ok hp hx
      exact q _ _ _ f hr
theorem pms_frz (i : Nat) (h : PSs X rest (canS g W sb)) : PSs X rest (canS g W (sSeq (sFrz i) sb)) :=
  PSsimp h fun Dn σ H hh => by
    obtain ⟨rh, mu, th, r, k, mu1, e, hk⟩ := can_seq hh
    unfold sFrz at e
    split at e
    · rename_i d hd
      cases hf : frzD d mu with
      | none => rw [hf] at e; cases e
      | some p =>
        obtain ⟨d', mu2⟩ := p
        rw [hf] at e
        cases (Option.some.inj e)
        obtain ⟨v, e1, e2⟩ := r.slt i d hd
        obtain ⟨f, hv⟩ := frz_ok r.ok e2 hf
        have r2 := r.fw f
        refine hk th σ H f ⟨r2.ok, by simp [r.len], fun j d2 e3 => ?_⟩
        by_cases hj : j = i
        · subst hj
          rw [List.getElem?_set_self ((List.getElem?_eq_some_iff.mp hd).1)] at e3
          cases (Option.some.inj (Option.some.inj e3))
          exact ⟨v, e1, hv⟩
        · rw [List.getElem?_set_ne (Ne.symm hj)] at e3
          exact r2.slt j d2 e3
    · cases e
theorem pm_never : PS X st (canS g W sNever) := PSimp ps_never fun Dn σ H ⟨rh, mu, th, r, o, mu', e, _⟩ => by cases e
end
end Eb
namespace Eb
open PySem L2
/-- law's promise: a list of at most 63 ints is handed in, True comes out -/
def spLaw (K : PySem.W.Frag) : Sp := fun vs H Q _ => ∃ (a : Addr) (ns : List Int), vs = [.ref a] ∧ SqL K H a (ns.map V.int) ∧ ns.length ≤ 63 ∧ ∀ H', Q (.bl true) H'
theorem law_end {P : Program} {w : World} {K : PySem.W.Frag} {mg : Str → Option Value} {base : Heap} {cls : Nat → Addr} {k : Nat} {f : Addr} {fd : FuncData} {ps : List Str} {ph : Phi} (F : FnOk P w K mg base CX0 k f fd ps (spM0 (gam P w K cls) ph))
    (h : ∀ ns : List Int, ns.length ≤ 63 → ∃ mu', ph [.scr ns] [] = some (.ok (.bl true), mu')) : FnOk P w K mg base CX0 k f fd ps (spLaw K) := by
  refine F.imp fun vs H Q E ⟨a, ns, e, hs, hl, q⟩ => ?_
  obtain ⟨mu', e1⟩ := h ns hl
  have o : Ok (gam P w K cls) ⟨[], []⟩ [] H := ⟨rfl, List.nodup_nil, fun i a c e _ => by simp at e, fun a m => by cases m⟩
  have eg : Gz ⟨[], []⟩ [] H = H := by
    funext b
    simp [Gz, own]
  refine ⟨[.scr ns], [], ⟨[], []⟩, .bl true, mu', o, ⟨.ref a, [], e, ?_, rfl⟩, e1, fun th' v H' f hv => ?_⟩
  · rw [eg]
    exact ⟨a, rfl, hs⟩
  · rw [show v = .bl true from hv]
    exact q H'
end Eb

/-! Eb: lists of tuples of ints, sorted; a result frozen; a range downward. -/
namespace Eb
open PySem L2
open Evl (Ex ex_l ex_t)
/-! ### the order of tuples of ints -/
theorem lex_asym : ∀ x y : List Int, HT.lexLt x y = true → HT.lexLt y x = false
  | [], [], h => by cases h
  | [], _ :: _, _ => rfl
  | _ :: _, [], h => by cases h
  | a :: x, b :: y, h => by
    rw [HT.lexLt_cons] at h ⊢
    by_cases e : a = b
    · rw [if_pos e] at h
      rw [if_pos e.symm]
      exact lex_asym x y h
    · rw [if_neg e] at h
      rw [if_neg (fun z => e z.symm)]
      have := of_decide_eq_true h
      exact decide_eq_false (by omega)
theorem lex_tr : ∀ x y z : List Int, HT.lexLt y x = false → HT.lexLt z y = false → HT.lexLt z x = false
  | [], _, [], _, _ => rfl
  | [], [], _ :: _, _, _ => rfl
  | [], _ :: _, _ :: _, _, _ => rfl
  | _ :: _, [], _, h, _ => by cases h
  | _ :: _, _ :: _, [], _, h => by cases h
  | a :: x, b :: y, c :: z, h1, h2 => by
    rw [HT.lexLt_cons] at h1 h2 ⊢
    by_cases e1 : b = a
    · rw [if_pos e1] at h1
      by_cases e2 : c = b
      · rw [if_pos e2] at h2
        rw [if_pos (e2.trans e1)]
        exact lex_tr x y z h1 h2
      · rw [if_neg e2] at h2
        rw [if_neg (fun q => e2 (q.trans e1.symm))]
        rw [← e1]
        exact h2
    · rw [if_neg e1] at h1
      have h1 := of_decide_eq_false h1
      by_cases e2 : c = b
      · rw [e2, if_neg e1]
        exact decide_eq_false h1
      · rw [if_neg e2] at h2
        have h2 := of_decide_eq_false h2
        rw [if_neg (by omega)]
        exact decide_eq_false (by omega)
theorem lex_total : ∀ x y : List Int, HT.lexLt x y = false → HT.lexLt y x = false → x = y
  | [], [], _, _ => rfl
  | [], _ :: _, h, _ => by cases h
  | _ :: _, [], _, h => by cases h
  | a :: x, b :: y, h1, h2 => by
    rw [HT.lexLt_cons] at h1 h2
    by_cases e : a = b
    · rw [if_pos e] at h1
      rw [if_pos e.symm] at h2
      rw [e, lex_total x y h1 h2]
    · rw [if_neg e] at h1
      rw [if_neg (fun q => e q.symm)] at h2
      have h1 := of_decide_eq_false h1
      have h2 := of_decide_eq_false h2
      omega
def insT (x : List Int) : List (List Int) → List (List Int)
  | [] => [x]
  | y :: l => if HT.lexLt y x = true then y :: insT x l else x :: y :: l
def srtT : List (List Int) → List (List Int)
  | [] => []
  | x :: l => insT x (srtT l)
theorem insT_perm (x : List Int) : ∀ l, (insT x l).Perm (x :: l)
  | [] => List.Perm.refl _
  | y :: l => by
    unfold insT
    split
    · exact ((insT_perm x l).cons y).trans (List.Perm.swap x y l)
    · exact List.Perm.refl _
theorem srtT_perm : ∀ l, (srtT l).Perm l
  | [] => List.Perm.refl _
  | x :: l => (insT_perm x _).trans ((srtT_perm l).cons x)
def LeT (x y : List Int) : Prop := HT.lexLt y x = false
theorem insT_pw {x : List Int} : ∀ {l}, l.Pairwise LeT → (insT x l).Pairwise LeT
  | [], _ => List.pairwise_singleton _ _
  | y :: l, h => by
    rw [List.pairwise_cons] at h
    unfold insT
    split
    · rename_i c
      rw [List.pairwise_cons]
      refine ⟨fun z hz => ?_, insT_pw h.2⟩
      rcases List.mem_cons.mp ((insT_perm x l).mem_iff.mp hz) with rfl | hz
      · exact lex_asym _ _ c
      · exact h.1 z hz
    · rename_i c
      have c : HT.lexLt y x = false := by simpa using c
      rw [List.pairwise_cons, List.pairwise_cons]
      refine ⟨fun z hz => ?_, h⟩
      rcases List.mem_cons.mp hz with rfl | hz
      · exact c
      · exact lex_tr _ _ _ c (h.1 z hz)
theorem srtT_pw : ∀ l, (srtT l).Pairwise LeT
  | [] => List.Pairwise.nil
  | x :: l => insT_pw (srtT_pw l)
theorem pwT_unique : ∀ {l m : List (List Int)}, l.Perm m → l.Pairwise LeT → m.Pairwise LeT → l = m
  | [], m, h, _, _ => (List.nil_perm.mp h).symm ▸ rfl
  | a :: l, [], h, _, _ => by have := h.length_eq; simp at this
  | a :: l, b :: m, h, h1, h2 => by
    rw [List.pairwise_cons] at h1 h2
    have e : a = b := by
      have ha : a ∈ b :: m := h.mem_iff.mp List.mem_cons_self
      have hb : b ∈ a :: l := h.mem_iff.mpr List.mem_cons_self
      rcases List.mem_cons.mp ha with ha | ha
      · exact ha
      · rcases List.mem_cons.mp hb with hb | hb
        · exact hb.symm
        · exact lex_total a b (h2.1 a ha) (h1.1 b hb)
    subst e
    rw [pwT_unique ((List.perm_cons a).mp h) h1.2 h2.2]
/-! ### two tuples compared as sorting does; what kind the keys are of -/
section
variable {prog : Program} {w : World} {A : Around} {E : Value → Shared → Prop} {s : Shared}
open PyProof.Rows
theorem oneLt_tups {l b : Addr} {items items2 : Array Value} {ns ms : List Int} {Q : Bool → Shared → Prop} (hl : IsTup s.heap l items) (hb : IsTup s.heap b items2) (hi : IntsAre items.toList ns) (hj : IntsAre items2.toList ms) (hu : A.units < cLine)
    (h : Q (HT.lexLt ns ms) s) : wpAny (model prog w) A (oneLt' true (.ref l) (.ref b)) Q E s := by
  obtain ⟨⟨cls, dd, data, sl⟩, ho, hc, n, hd⟩ := id hl
  obtain ⟨⟨cls2, dd2, data2, sl2⟩, ho2, hc2, n2, hd2⟩ := id hb
  simp only at hc hd hc2 hd2
  subst hc hd hc2 hd2
  rw [oneLt'_eq]
  simp only [if_true]
  refine wpAny_bind (wpAny_cRoomFor hu ?_)
  refine wpAny_bind (wpAny_callSpecialIfBound?_slot (T := "tuple") ⟨_, ho, rfl⟩ PySem.F.slot_tuple_lt (call_meets PySem.F.slot_tuple_lt ⟨_, ho, rfl⟩ PySem.F.entry_tuple_lt (PySem.F.args_tuple_lt_2 _ _) (HT.tuple_lt_ints l b items items2 n n2 dd dd2 sl sl2 ns ms hi hj) ⟨ho, ho2, ?_⟩))
  exact wpAny_truthy_bool h
/-- the keys: tuples, the first of them empty -/
theorem kind_first_empty {vs : List Value} {Q : SortKind → Shared → Prop} (h : ∀ v ∈ vs, ∃ b its, v = .ref b ∧ IsTup s.heap b its) (h0 : ∃ b r, vs = .ref b :: r ∧ IsTup s.heap b #[]) (hq : Q oneType' s) : wpAny (model prog w) A (keyKind' vs.toArray) Q E s := by
  have f : ∀ (l : List Value) {Q : List (Option Value) → Shared → Prop}, (∀ v ∈ l, ∃ b its, v = .ref b ∧ IsTup s.heap b its) → (∀ fs : List (Option Value), fs.length = l.length → (∀ b r, l = .ref b :: r → IsTup s.heap b #[] → ∃ t, fs = none :: t) → Q fs s) → wpAny (model prog w) A (l.mapM firstOfTuple') Q E s := by
    intro l
    induction l with
    | nil =>
      intro Q _ k
      rw [List.mapM_nil]
      exact wpAny_pure (k [] rfl fun b r e => by cases e)
    | cons v l ih =>
      intro Q hv k
      obtain ⟨b, its, rfl, o, ho, hc, n, hd⟩ := hv v List.mem_cons_self
      rw [List.mapM_cons]
      refine wpAny_bind ?_
      rw [PySem.W.kas_first_eq]
      refine wpAny_bind (PySem.W.Looks.here (show PySem.W.Looks (model prog w) s.heap (typeOf (.ref b)) o.cls from (PySem.W.Looks.ld ho).andThen .now) ?_)
      rw [hc, if_neg (by first | decide | simp)]
      refine wpAny_bind (listItems_at ho hd (wpAny_pure ?_))
      refine wpAny_bind (ih (fun v hv' => hv v (List.mem_cons_of_mem _ hv')) fun fs hl _ => wpAny_pure (k _ (by simp [hl]) ?_))
      rintro b2 r e hE
      cases e
      obtain ⟨o2, ho2, _, n2, hd2⟩ := hE
      rw [ho] at ho2
      cases ho2
      rw [hd] at hd2
      cases hd2
      exact ⟨fs, rfl⟩
  obtain ⟨b0, r0, e0, t0⟩ := h0
  rw [kat_kind_eq, List.mapM_toArray, map_eq_pure_bind]
  refine wpAny_bind (wpAny_bind (f vs h fun fs hl hf => wpAny_pure ?_))
  obtain ⟨t, rfl⟩ := hf b0 r0 e0 t0
  have h1 : ((none :: t).toArray.all fun x : Option Value => x.isSome) = false := by simp
  rw [if_neg (by rw [h1]; exact Bool.false_ne_true)]
  have h2 : (((none :: t : List (Option Value)).toArray[0]?).bind id).isSome = false := by simp
  rw [h2, if_neg Bool.false_ne_true]
  rw [oneTypeOnly'_eq, List.mapM_toArray, map_eq_pure_bind]
  refine wpAny_bind (wpAny_bind (wpAny_bind (PySem.W.kas_mapM (r := Value.type "tuple") vs (fun v hv Q' hq => ?_) (wpAny_pure ?_))))
  · obtain ⟨b, its, rfl, o, ho, hc, n, hd⟩ := h v hv
    refine PySem.W.Looks.here (show PySem.W.Looks (model prog w) s.heap (typeOf (.ref b)) o.cls from (PySem.W.Looks.ld ho).andThen .now) ?_
    rw [hc]
    exact hq
  · have h3 : ((List.map (fun _ => Value.type "tuple") vs).toArray.all fun x => x == Value.type "tuple") = true := by
      simp only [List.all_toArray, List.all_map, List.all_eq_true]
      intro _ _
      exact (by decide : (Value.type "tuple" == Value.type "tuple") = true)
    have h4 : (List.map (fun _ => Value.type "tuple") vs).toArray[0]? = some (Value.type "tuple") := by rw [e0]; simp
    rw [h4]
    simp only [h3, if_true]
    exact wpAny_pure (wpAny_pure hq)
theorem swo_tups (k : Value → List Int) : SrtO.Swo fun v u => HT.lexLt (k v) (k u) := ⟨fun x y h => lex_asym _ _ h, fun x y z h1 h2 => lex_tr _ _ _ h1 h2⟩
theorem sorted_tups {l : Addr} {vs : List Value} {k : Value → List Int} {Q : Value → Shared → Prop} (hl : s.heap.IsList l vs.toArray) (hz : vs.length ≤ sizeLine) (hp : ∀ v ∈ vs, ∃ b its, v = .ref b ∧ IsTup s.heap b its ∧ IntsAre its.toList (k v))
    (h0 : ∃ b r, vs = .ref b :: r ∧ IsTup s.heap b #[]) (hu : A.units + 8 < cLine)
    (h : ∀ (h' : Heap) (d : Addr) (out : List Value), SrtO.Srtd (fun v u => HT.lexLt (k v) (k u)) out → out.Perm vs → (∀ b o, s.heap.get? b = some o → h'.get? b = some o) → s.heap.objs.size ≤ d → (∃ n, h'.get? d = some (seqObj "list" out.toArray n)) → Q (.ref d) { s with heap := h' }) :
    wpAny (model prog w) A (call (.builtin "sorted") [.ref l]) Q E s := by
  refine SrtO.sorted_ord (swo_tups k) hl hz (fun h2 h₁ a ha kk => ?_) fun out hs hb => ?_
  · intro h' keep
    have ne : ∀ b its, IsTup s.heap b its → IsTup h' b its := fun b its ⟨o, ho, hc, r⟩ => ⟨o, keep b o (kk b o ho).1 (kk b o ho).2, hc, r⟩
    refine ⟨oneType', fun Q E hq => kind_first_empty (s := { s with heap := h' }) (fun v hv => ?_) ?_ hq, ?_⟩
    · obtain ⟨b, its, e, t, _⟩ := hp v hv
      exact ⟨b, its, e, ne b its t⟩
    · obtain ⟨b, r, e, t⟩ := h0
      exact ⟨b, r, e, ne b _ t⟩
    · intro p q hm hm'
      obtain ⟨b, its, e, t, i1⟩ := hp _ hm
      obtain ⟨c, itc, e', t', i2⟩ := hp _ hm'
      show wpAny (model prog w) A.in1.in1 (oneLt' true p.1 q.1) _ _ _
      rw [e, e']
      exact oneLt_tups (s := { s with heap := h' }) (ns := k p.1) (ms := k q.1) (ne b its t) (ne c itc t') i1 i2 (by show A.units + 1 + 1 < cLine; omega) ⟨rfl, rfl⟩
  · exact h _ _ out hs hb.perm (fun b o e => sortedAll_old e) (Nat.le_succ _) (sortedAll_at s.heap vs out.toArray)
end
/-! ### the rule -/
def tupsOf : List D → Option (List (List Int))
  | [] => some []
  | .tup ds :: r => match intsOf ds with
    | some ns => (tupsOf r).map (ns :: ·)
    | none => none
  | _ :: _ => none
def sortTTD (mu : Mu) : List D → Option D
  | [x] => match lstOf mu x with
    | some (.tup [] :: r) => if r.length ≤ 10000 then (tupsOf (.tup [] :: r)).map fun l => .lst ((srtT l).map fun ns => .tup (ns.map .int)) else none
    | _ => none
  | _ => none
theorem intsOf_map : ∀ {ds : List D} {ns : List Int}, intsOf ds = some ns → ds = ns.map D.int
  | [], ns, h => by cases (Option.some.inj h); rfl
  | .int i :: ds, ns, h => by
    have h : (intsOf ds).map (i :: ·) = some ns := h
    cases hj : intsOf ds with
    | none => rw [hj] at h; cases h
    | some ms =>
      rw [hj] at h
      cases (Option.some.inj h)
      rw [intsOf_map hj]
      rfl
  | .non :: _, _, h => by cases h
  | .bl _ :: _, _, h => by cases h
  | .str _ :: _, _, h => by cases h
  | .tup _ :: _, _, h => by cases h
  | .lst _ :: _, _, h => by cases h
  | .ins _ _ :: _, _, h => by cases h
  | .set _ :: _, _, h => by cases h
  | .cel _ :: _, _, h => by cases h
  | .scr _ :: _, _, h => by cases h
  | .ty _ :: _, _, h => by cases h
  | .cls _ :: _, _, h => by cases h
  | .dic _ _ :: _, _, h => by cases h
  | .exn _ _ :: _, _, h => by cases h
section
variable {X : Cx} {g : Gam} {th : Th} {mu : Mu} {H : Hp} {G : Hp}
theorem tupsOf_eq : ∀ {ds : List D} {ls : List (List Int)} {vs : List V}, RpL g th (Gz th mu H) ds vs → tupsOf ds = some ls → ∃ ps : List (Addr × List Int), vs = ps.map (fun p => V.ref p.1) ∧ ps.map (·.2) = ls ∧ ∀ p ∈ ps, SqT g.K H p.1 (p.2.map V.int) ∧ Rp g th (Gz th mu H) (.tup (p.2.map .int)) (.ref p.1)
  | [], ls, vs, h, e => by
    cases (Option.some.inj e)
    exact ⟨[], h, rfl, by simp⟩
  | .tup ds :: r, ls, vs, h, e => by
    obtain ⟨v, t, rfl, h1, h2⟩ := h
    have e : (match intsOf ds with | some ns => (tupsOf r).map (ns :: ·) | none => none) = some ls := e
    cases hi : intsOf ds with
    | none => rw [hi] at e; cases e
    | some ns =>
      rw [hi] at e
      cases ht : tupsOf r with
      | none => rw [ht] at e; cases e
      | some l2 =>
        rw [ht] at e
        cases (Option.some.inj e)
        obtain ⟨ps, e1, e2, e3⟩ := tupsOf_eq h2 ht
        obtain ⟨a, xs, rfl, s1, r1, _⟩ := sqT_of h1
        have ex := intsOf_eq r1 hi
        have ed : ds = ns.map D.int := intsOf_map hi
        refine ⟨(a, ns) :: ps, by rw [e1]; rfl, by rw [List.map_cons, e2], fun p hp => ?_⟩
        rcases List.mem_cons.mp hp with rfl | hp
        · exact ⟨by rw [← ex]; exact s1, by rw [← ed]; exact h1⟩
        · exact e3 p hp
  | .non :: r, ls, vs, h, e => by cases e
  | .bl _ :: r, ls, vs, h, e => by cases e
  | .int _ :: r, ls, vs, h, e => by cases e
  | .str _ :: r, ls, vs, h, e => by cases e
  | .lst _ :: r, ls, vs, h, e => by cases e
  | .ins _ _ :: r, ls, vs, h, e => by cases e
  | .set _ :: r, ls, vs, h, e => by cases e
  | .cel _ :: r, ls, vs, h, e => by cases e
  | .scr _ :: r, ls, vs, h, e => by cases e
  | .ty _ :: r, ls, vs, h, e => by cases e
  | .cls _ :: r, ls, vs, h, e => by cases e
  | .dic _ _ :: r, ls, vs, h, e => by cases e
  | .exn _ _ :: r, ls, vs, h, e => by cases e
def rSortTT (K : PySem.W.Frag) : List V → Hp → VK → Prop := fun vs H Q => ∃ (a : Addr) (ps : List (Addr × List Int)), vs = [V.ref a] ∧ H a = some (.lst (ps.map fun p => V.ref p.1)) ∧ ps.length ≤ 100000 ∧ (∀ p ∈ ps, SqT K H p.1 (p.2.map V.int)) ∧ (∃ b r, ps = (b, []) :: r) ∧
  ∀ (p : Addr) (qs : List (Addr × List Int)), H p = none → qs.Perm ps → (qs.map (·.2)).Pairwise LeT → Q (.ref p) (upd H p (.lst (qs.map fun p => V.ref p.1)))
open Classical in
noncomputable def keyAt (ps : List (Addr × List Int)) : Value → List Int := fun v => match v with
  | .ref b => ((ps.find? fun p => p.1 == b).map (·.2)).getD []
  | _ => []
theorem vals_refs : ∀ {l : List Addr} {us : List Value}, Vals (l.map V.ref) us → us = l.map Value.ref
  | [], _, h => by cases h; rfl
  | a :: l, _, h => by
    cases h with
    | cons r t =>
      cases r
      rw [vals_refs t]
      rfl
theorem refs_vals : ∀ l : List Addr, Vals (l.map V.ref) (l.map Value.ref)
  | [] => .nil
  | a :: l => .cons rfl (refs_vals l)
theorem int_inj : ∀ {l m : List Int}, l.map V.int = m.map V.int → l = m
  | [], [], _ => rfl
  | [], _ :: _, h => by cases h
  | _ :: _, [], h => by cases h
  | a :: l, b :: m, h => by
    rw [List.map_cons, List.map_cons] at h
    injection h with h1 h2
    injection h1 with h1
    rw [h1, int_inj h2]
theorem cr_sortTT (hu : X.A.units + 64 < cLine) : CallR X (.builtin "sorted") (rSortTT X.K) := by
  intro pins s σ H vs us Q I r h
  obtain ⟨a, ps, rfl, hH, hlen, hsq, ⟨b0, r0, e0⟩, q⟩ := h
  rw [Vals.ref1 r]
  obtain ⟨its, rv, hl, hz⟩ := I.list (xs := ps.map fun p => V.ref p.1) (SqL.of hH)
  have ei : its = (ps.map (·.1)).map Value.ref := vals_refs (by rw [List.map_map]; exact rv)
  have hk : ∀ p ∈ ps, keyAt ps (.ref p.1) = p.2 := fun p hp => by
    show ((ps.find? fun x => x.1 == p.1).map (·.2)).getD [] = p.2
    cases hf : ps.find? fun x => x.1 == p.1 with
    | none =>
      have := List.find?_eq_none.mp hf p hp
      simp at this
    | some p' =>
      have h1 := List.mem_of_find?_eq_some hf
      have h2 := List.find?_some hf
      have h2 : p'.1 = p.1 := by simpa using h2
      have h3 := hsq p' h1
      rw [h2] at h3
      exact int_inj (I.tuple_inj h3 (hsq p hp))
  have hv : ∀ v ∈ its, ∃ p ∈ ps, v = .ref p.1 := fun v hv => by
    rw [ei, List.map_map] at hv
    obtain ⟨p, hp, rfl⟩ := List.mem_map.mp hv
    exact ⟨p, hp, rfl⟩
  have tup : ∀ p ∈ ps, ∃ t, PyProof.Rows.IsTup s.heap p.1 t ∧ PyProof.Rows.IntsAre t.toList p.2 ∧ (p.2 = [] → t = #[]) := fun p hp => by
    obtain ⟨ts, rt, ht, _⟩ := I.tuple (hsq p hp)
    refine ⟨ts.toArray, ht, intsAre_of rt, fun e => ?_⟩
    rw [e] at rt
    cases rt
    rfl
  refine sorted_tups (k := keyAt ps) hl.isList (by rw [← rv.length]; exact hz) (fun v hv' => ?_) ?_ (by omega) fun h' d out hs hp keep hd hg => ?_
  · obtain ⟨p, hp, rfl⟩ := hv v hv'
    obtain ⟨t, h1, h2, _⟩ := tup p hp
    exact ⟨p.1, t, rfl, h1, by rw [hk p hp]; exact h2⟩
  · obtain ⟨t, h1, _, h3⟩ := tup (b0, []) (by rw [e0]; exact List.mem_cons_self)
    rw [h3 rfl] at h1
    exact ⟨b0, (r0.map (·.1)).map Value.ref, by rw [ei, e0]; rfl, h1⟩
  · let ad : Value → Addr × List Int := fun v => (match v with | .ref b => b | _ => 0, keyAt ps v)
    have h1 : its.map ad = ps := by
      rw [ei, List.map_map, List.map_map]
      conv => rhs; rw [← List.map_id ps]
      apply List.map_congr_left
      intro p hp
      show (p.1, keyAt ps (.ref p.1)) = p
      rw [hk p hp]
    have h2 : (out.map ad).Perm ps := by rw [← h1]; exact hp.map ad
    have h3 : (out.map ad).map (fun p => Value.ref p.1) = out := by
      rw [List.map_map]
      conv => rhs; rw [← List.map_id out]
      apply List.map_congr_left
      intro v hv'
      obtain ⟨p, _, rfl⟩ := hv v (hp.mem_iff.mp hv')
      rfl
    have h4 : ((out.map ad).map (·.2)).Pairwise LeT := by
      rw [List.map_map, List.pairwise_map]
      exact hs
    obtain ⟨n, hg⟩ := hg
    have hz2 : ((out.map ad).map fun p => V.ref p.1).length ≤ sizeLine := by
      rw [List.length_map, h2.length_eq]
      rw [sizeLine_eq]
      omega
    have hvs : Vals ((out.map ad).map fun p => V.ref p.1) out := by
      have := refs_vals ((out.map ad).map (·.1))
      rw [List.map_map] at this
      have e5 : ((out.map ad).map (·.1)).map Value.ref = out := by rw [List.map_map]; exact h3
      rw [e5] at this
      exact this
    exact ⟨.ref d, _, I.laid (t' := s.toks) (o := .lst ((out.map ad).map fun p => V.ref p.1)) keep hd ⟨hz2, out, n, hvs, hg⟩, rfl, q d (out.map ad) (I.hok.fresh hd) h2 h4⟩
theorem cm_sortTT (hK : X.K = g.K) (hu : X.A.units + 64 < cLine) : CallM X g (.builtin "sorted") (pureF sortTTD) := by
  refine .mk' (cr_sortTT hu) fun th mu H ds vs d o hd e Q q => ?_
  rw [hK]
  unfold sortTTD at e
  split at e
  · rename_i x
    split at e
    · rename_i r hx
      split at e
      · rename_i hl
        cases ht : tupsOf (.tup [] :: r) with
        | none => rw [ht] at e; cases e
        | some ls =>
          rw [ht] at e
          cases (Option.some.inj e)
          obtain ⟨v, rfl, hv⟩ := rpL1 hd
          obtain ⟨a, xs, rfl, s1, r1⟩ := lst_at o hv hx
          obtain ⟨ps, e1, e2, e3⟩ := tupsOf_eq r1 ht
          subst e1
          have hlen : ps.length = r.length + 1 := by
            have := r1.length
            simpa using this
          refine ⟨a, ps, rfl, s1, by omega, fun p hp => (e3 p hp).1, ?_, fun p qs hp hq hs => q _ _ (Evl.Ex.new hp) (rp_newLst o hp ?_)⟩
          · cases ps with
            | nil => simp at hlen
            | cons p ps =>
              obtain ⟨b, l⟩ := p
              have : l = [] := by
                have e4 : tupsOf (.tup [] :: r) = (tupsOf r).map (([] : List Int) :: ·) := rfl
                rw [e4] at ht
                cases hr : tupsOf r with
                | none => rw [hr] at ht; cases ht
                | some l2 =>
                  rw [hr] at ht
                  have ht := Option.some.inj ht
                  rw [← ht, List.map_cons] at e2
                  exact (List.cons.inj e2).1
              exact ⟨b, ps, by rw [this]⟩
          · have e5 : qs.map (·.2) = srtT ls := pwT_unique ((hq.map _).trans (by rw [e2]; exact (srtT_perm ls).symm)) hs (srtT_pw ls)
            rw [← e5]
            have all : ∀ p ∈ qs, Rp g th (Gz th mu H) (.tup (p.2.map .int)) (.ref p.1) := fun p hp => (e3 p (hq.mem_iff.mp hp)).2
            clear e5 hs hq
            induction qs with
            | nil => rfl
            | cons p qs ih => exact ⟨.ref p.1, _, rfl, all p List.mem_cons_self, ih fun p hp => all p (List.mem_cons_of_mem _ hp)⟩
      · cases e
    · cases e
  · cases e
end
end Eb

/-! Eb: a range downward; a def's result frozen. -/
namespace Eb
open PySem L2
open Evl (Ex ex_l ex_t)
section
variable {X : Cx} {g : Gam} {W : WX} {tg a b c : Expr} {mr : M (List D)} {p pos : Pos}
theorem walks_c {th : Th} {G : Hp} {lo : Int} {n : Nat} : WalksD g th G (Itc lo (-1) n) ((List.range n).map fun (i : Nat) => D.int (lo - (i : Int))) := by
  intro th' mu' H' pf o ex i
  refine ⟨fun d e => ?_, fun e => by rw [e]; show n ≤ _; simp⟩
  rw [List.getElem?_map] at e
  have hi : i < n := by
    by_cases hi : i < n
    · exact hi
    · rw [List.getElem?_eq_none (by simpa using hi)] at e; cases e
  rw [List.getElem?_range hi] at e
  have e' := Option.some.inj e
  subst e'
  exact ⟨hi, fun x H'' ⟨e1, e2⟩ => ⟨by rw [e1]; exact fun _ _ z => z, by rw [e2]; show V.int _ = V.int _; congr 1; omega⟩⟩
theorem pmi_rng3 (hm : X.mg "range" = none) (ha : PA X [a, b, c] (canA g W mr)) (hg : Gl X "range" := by rfl) (hs : starEach [a, b, c] X.env = (false, eval a X.env) :: starEach [b, c] X.env := by rfl) (hpl : (backTo pos (starEach [b, c] X.env)).any (·.1) = false := by rfl) :
    PI X tg (.Call (.Name "range" p) [a, b, c] [] pos) (canI g W (mRng3 mr)) :=
  PIimp (pi_range3 hg hm ha hs hpl) fun σ H R h => (can_bind (R := RA g) h).imp fun vs H1 ⟨ds, rh, mu1, th1, hd, r1, h1⟩ => by
    obtain ⟨es, e, q⟩ := canAt_lift r1 h1
    unfold rng3 at e
    split at e
    · rename_i i j
      split at e
      · rename_i hn
        have e' := Option.some.inj e
        subst e'
        obtain ⟨v, v', v2, rfl, hv, hv', hv2⟩ := rpL3 hd
        have hv : v = .int i := hv
        have hv' : v' = .int j := hv'
        have hv2 : v2 = .int (-1) := hv2
        subst hv hv' hv2
        exact ⟨i, j, -1, _, rfl, RgC.neg (by omega) (by omega) (by omega) (by omega), q th1 _ H1 (Fw.refl r1.ok) walks_c⟩
      · cases e
    · cases e
end
def mFz (f : Phi) : Phi := fun ds mu => match f ds mu with
  | some (.ok d, mu') => (frzD d mu').map fun p => (.ok p.1, p.2)
  | some (.er x, mu') => some (.er x, mu')
  | none => none
section
variable {g : Gam} {H : Hp}
theorem spM_fz {f : Phi} {vs : List V} {Q : VK} {E : XK} (h : spM g (mFz f) vs H Q E) : spM g f vs H Q E := by
  obtain ⟨ds, mu, th, r, mu', o, hd, e, q⟩ := h
  unfold mFz at e
  split at e
  · rename_i d mu1 he
    cases hf : frzD d mu1 with
    | none => rw [hf] at e; cases e
    | some p =>
      obtain ⟨d2, mu2⟩ := p
      rw [hf] at e
      cases (Option.some.inj e)
      refine ⟨ds, mu, th, .ok d, mu1, o, hd, he, fun th' v H' f hv => ?_⟩
      obtain ⟨f2, hv2⟩ := frz_ok f.ok hv hf
      exact q th' v H' (f.trans f2) hv2
  · rename_i x mu1 he
    cases (Option.some.inj e)
    exact ⟨ds, mu, th, _, _, o, hd, he, q⟩
  · cases e
end
theorem FnOk.fz {P : Program} {w : World} {K : PySem.W.Frag} {mg : Str → Option Value} {base : Heap} {CX : CXT} {k : Nat} {f : Addr} {fd : FuncData} {ps : List Str} {ph : Phi} {g : Gam} (F : FnOk P w K mg base CX k f fd ps (spM g ph)) : FnOk P w K mg base CX k f fd ps (spM g (mFz ph)) :=
  F.imp fun _ _ _ _ h => spM_fz h
theorem Cal.fz {P : Program} {w : World} {K : PySem.W.Frag} {mg : Str → Option Value} {base : Heap} {cls : Nat → Addr} {k : Nat} {ps : List Str} {ph : Phi} {x : Str} (h : Cal P w K mg base cls x k ps ph) : Cal P w K mg base cls x k ps (mFz ph) := by
  obtain ⟨f, fd, h1, h2, h3, h4⟩ := h.ex
  exact ⟨f, fd, h1, h2, h3, Eb.FnOk.fz h4⟩
end Eb

/-! Eb: in, of data that isn't flat. -/
namespace Eb
open PySem L2
open Evl (Ex ex_l ex_t)
def rInDp (K : PySem.W.Frag) (neg : Bool) : R2 := fun x y H Q => ∃ a xs d es, y = .ref a ∧ (SqL K H a xs ∨ SqT K H a xs) ∧ Dp K H x d ∧ DpAll K H xs es ∧ SeqAt.shaped d = true ∧ es.all SeqAt.shaped = true ∧
  Q (.bl (if neg then !(es.any fun e => PyData.eqv e d) else es.any fun e => PyData.eqv e d)) H
open Classical in
noncomputable def eqWith (h : Heap) (d : PyData) (v : Value) : Bool := decide (∃ e as, Reads h v e as ∧ e.plain = true ∧ PyData.eqv e d = true)
open Classical in
theorem eqWith_of {h : Heap} {d e : PyData} {v : Value} {as : List Addr} (r : Reads h v e as) (p : e.plain = true) : eqWith h d v = PyData.eqv e d := by
  unfold eqWith
  cases he : PyData.eqv e d with
  | true => exact decide_eq_true ⟨e, as, r, p, he⟩
  | false =>
    refine decide_eq_false ?_
    rintro ⟨e', as', r', p', h'⟩
    rw [SeqAt.plain_unique e' e v as' as p' r' r, he] at h'
    cases h'
section
variable {X : Cx}
theorem reads_all {pins : List (Addr × Obj)} {σ : L2.St} {H : Hp} {s : Shared} (I : Inv X pins σ H s) : ∀ (es : List PyData) (xs : List V) (us : List Value), DpAll X.K H xs es → Vals xs us → es.all SeqAt.shaped = true →
    (∀ u ∈ us, ∃ e as, Reads s.heap u e as ∧ SeqAt.shaped e = true) ∧ ∀ d, us.any (eqWith s.heap d) = es.any fun e => PyData.eqv e d
  | [], _, _, h, r, _ => by
    cases h
    cases r
    exact ⟨fun u hu => absurd hu (List.not_mem_nil), fun d => rfl⟩
  | e :: es, _, _, h, r, hs => by
    cases h with
    | cons h1 h2 =>
      cases r with
      | cons r1 r2 =>
        rw [List.all_cons, Bool.and_eq_true] at hs
        obtain ⟨as, rd⟩ := Dp.reads I _ _ _ h1 r1
        obtain ⟨q1, q2⟩ := reads_all I es _ _ h2 r2 hs.2
        refine ⟨fun u hu => ?_, fun d => ?_⟩
        · rcases List.mem_cons.mp hu with rfl | hu
          · exact ⟨_, as, rd, hs.1⟩
          · exact q1 u hu
        · rw [List.any_cons, List.any_cons, q2, eqWith_of rd (PyData.plain_of_canLay0 _ (SeqAt.canLay_of_shaped hs.1))]
theorem at_with {s : Shared} {A : Around} {d : PyData} {u v : Value} {bs : List Addr} (hu : A.units + 64 < cLine) (rv : Reads s.heap v d bs) (sd : SeqAt.shaped d = true) (h : ∃ e as, Reads s.heap u e as ∧ SeqAt.shaped e = true) : SeqAt.EqAt A s u v (eqWith s.heap d u) := by
  obtain ⟨e, as, r, se⟩ := h
  rw [eqWith_of r (PyData.plain_of_canLay0 _ (SeqAt.canLay_of_shaped se))]
  exact SeqAt.eqAt_reads e d A s u v as bs r rv (SeqAt.canLay_of_shaped se) (SeqAt.canLay_of_shaped sd) (SeqAt.room_of_shaped se hu)
theorem op_inDp (hu : X.A.units + 80 < cLine) : OpR X (compareOp .In) (rInDp X.K false) := by
  intro pins s σ H x y v u Q I rx ry h
  obtain ⟨p, xs, d, es, rfl, hq, hd, he, sd, se, q⟩ := h
  cases ry
  obtain ⟨bs, rv⟩ := Dp.reads I d x v hd rx
  have hu1 : X.A.in1.units + 64 < cLine := by show X.A.units + 1 + 64 < cLine; omega
  rcases hq with hq | hq
  · obtain ⟨its, r, pl, hz⟩ := I.list hq
    obtain ⟨q1, q2⟩ := reads_all I es xs its he r se
    refine SeqAt.in_listAt (eqWith s.heap d) pl.isList (fun w hw => at_with hu1 rv sd (q1 w (by simpa using hw))) ⟨.bl _, H, I, rfl, ?_⟩
    rw [show its.toArray.any (eqWith s.heap d) = its.any (eqWith s.heap d) by simp, q2]
    exact q
  · obtain ⟨its, r, pl, hz⟩ := I.tuple hq
    obtain ⟨q1, q2⟩ := reads_all I es xs its he r se
    refine SeqAt.in_tupleAt (eqWith s.heap d) pl (fun w hw => at_with hu1 rv sd (q1 w (by simpa using hw))) ⟨.bl _, H, I, rfl, ?_⟩
    rw [show its.toArray.any (eqWith s.heap d) = its.any (eqWith s.heap d) by simp, q2]
    exact q
theorem op_notinDp (hu : X.A.units + 80 < cLine) : OpR X (compareOp .NotIn) (rInDp X.K true) := by
  intro pins s σ H x y v u Q I rx ry h
  obtain ⟨p, xs, d, es, rfl, hq, hd, he, sd, se, q⟩ := h
  cases ry
  obtain ⟨bs, rv⟩ := Dp.reads I d x v hd rx
  have hu1 : X.A.in1.units + 64 < cLine := by show X.A.units + 1 + 64 < cLine; omega
  rcases hq with hq | hq
  · obtain ⟨its, r, pl, hz⟩ := I.list hq
    obtain ⟨q1, q2⟩ := reads_all I es xs its he r se
    refine SeqAt.notIn_listAt (eqWith s.heap d) pl.isList (fun w hw => at_with hu1 rv sd (q1 w (by simpa using hw))) ⟨.bl _, H, I, rfl, ?_⟩
    rw [show its.toArray.any (eqWith s.heap d) = its.any (eqWith s.heap d) by simp, q2]
    exact q
  · obtain ⟨its, r, pl, hz⟩ := I.tuple hq
    obtain ⟨q1, q2⟩ := reads_all I es xs its he r se
    refine SeqAt.notIn_tupleAt (eqWith s.heap d) pl (fun w hw => at_with hu1 rv sd (q1 w (by simpa using hw))) ⟨.bl _, H, I, rfl, ?_⟩
    rw [show its.toArray.any (eqWith s.heap d) = its.any (eqWith s.heap d) by simp, q2]
    exact q
end
/-! ### the rule -/
def inXB (mu : Mu) (x y : D) : Option Bool := match pyD mu 12 x, (match y with | .tup ds => some ds | y => lstOf mu y) with
  | some p, some ds => match allM (pyD mu 12) ds with
    | some ps => if SeqAt.shaped p && ps.all SeqAt.shaped then some (ps.any fun e => PyData.eqv e p) else none
    | none => none
  | _, _ => none
def inX (mu : Mu) (x y : D) : Option D := (inXB mu x y).map .bl
def notinX (mu : Mu) (x y : D) : Option D := (inXB mu x y).map fun b => .bl (!b)
section
variable {X : Cx} {g : Gam} {th : Th} {mu : Mu} {H : Hp}
theorem inXB_at {x y : D} {v u : V} {b : Bool} (o : Ok g th mu H) (hx : Rp g th (Gz th mu H) x v) (hy : Rp g th (Gz th mu H) y u) (e : inXB mu x y = some b) :
    ∃ a xs d es, u = .ref a ∧ (SqL g.K H a xs ∨ SqT g.K H a xs) ∧ Dp g.K H v d ∧ DpAll g.K H xs es ∧ SeqAt.shaped d = true ∧ es.all SeqAt.shaped = true ∧ (es.any fun e => PyData.eqv e d) = b := by
  unfold inXB at e
  split at e
  · rename_i p ds hp hds
    split at e
    · rename_i ps hps
      split at e
      · rename_i hs
        rw [Bool.and_eq_true] at hs
        have d1 := pyD_dp o 12 x v p hx hp
        have sq : ∃ a xs, u = .ref a ∧ (SqL g.K H a xs ∨ SqT g.K H a xs) ∧ RpL g th (Gz th mu H) ds xs := by
          split at hds
          · cases (Option.some.inj hds)
            obtain ⟨a, xs, e1, e2, e3, _⟩ := sqT_of hy
            exact ⟨a, xs, e1, .inr e2, e3⟩
          · obtain ⟨a, xs, e1, e2, e3⟩ := lst_at o hy hds
            exact ⟨a, xs, e1, .inl (SqL.of e2), e3⟩
        obtain ⟨a, xs, e1, e2, e3⟩ := sq
        exact ⟨a, xs, p, ps, e1, e2, d1, allM_dp (pyD_dp o 12) ds xs ps e3 hps, hs.1, hs.2, Option.some.inj e⟩
      · cases e
    · cases e
  · cases e
theorem om_inX (hK : X.K = g.K) (hu : X.A.units + 80 < cLine) : OpM X g (compareOp .In) inX := by
  refine .mk' (op_inDp hu) fun th mu H x y v u d o hx hy e Q q => ?_
  unfold inX at e
  cases hb : inXB mu x y with
  | none => rw [hb] at e; cases e
  | some b =>
    rw [hb] at e
    cases (Option.some.inj e)
    obtain ⟨a, xs, p, es, e1, e2, e3, e4, e5, e6, e7⟩ := inXB_at o hx hy hb
    exact ⟨a, xs, p, es, e1, by rw [hK]; exact e2, by rw [hK]; exact e3, by rw [hK]; exact e4, e5, e6, by rw [e7]; exact q _ H (fun _ _ z => z) rfl⟩
theorem om_notinX (hK : X.K = g.K) (hu : X.A.units + 80 < cLine) : OpM X g (compareOp .NotIn) notinX := by
  refine .mk' (op_notinDp hu) fun th mu H x y v u d o hx hy e Q q => ?_
  unfold notinX at e
  cases hb : inXB mu x y with
  | none => rw [hb] at e; cases e
  | some b =>
    rw [hb] at e
    cases (Option.some.inj e)
    obtain ⟨a, xs, p, es, e1, e2, e3, e4, e5, e6, e7⟩ := inXB_at o hx hy hb
    exact ⟨a, xs, p, es, e1, by rw [hK]; exact e2, by rw [hK]; exact e3, by rw [hK]; exact e4, e5, e6, by rw [e7]; exact q _ H (fun _ _ z => z) rfl⟩
end
theorem hu80 {k : Nat} {A : Around} (hr : Room k A) : A.units + 80 < cLine := by
  have := hr.un
  omega
end Eb

/-! Eb: texts split, texts read as ints, enumerate. -/
namespace Eb
open PySem L2
open Evl (Ex ex_l ex_t)
theorem map_str_rp {g : Gam} {th : Th} {G : Hp} : ∀ ys : List Str, RpL g th G (ys.map .str) (ys.map V.str)
  | [] => rfl
  | n :: ns => ⟨_, _, rfl, rfl, map_str_rp ns⟩
def splitF : MtF := fun o ds mu => match o, ds with
  | .str a, [.str b] => if (b.length == 0) = false ∧ a.length ≤ 100000 then some (.lst ((Txt.split a b).map .str), mu) else none
  | _, _ => none
def intSD (_ : Mu) : List D → Option D
  | [.str z] => if z.length ≤ 640 then (PySem.intText? z).map .int else none
  | _ => none
def enumD : List D → Option (List D)
  | [.lst ds] => some (ds.zipIdx.map fun p => .tup [.int (p.2 : Int), p.1])
  | _ => none
def mEnum (mr : M (List D)) : M (List D) := bindM mr fun ds => lift fun _ => enumD ds
section
variable {X : Cx} {g : Gam} {W : WX} {tg e : Expr} {mr : M (List D)} {p pos tpos : Pos} {elts : List Expr} {kk : Nat}
theorem ms_split : MtS X g "str" "str.split" isStr splitF := by
  refine ⟨_, mt_split, fun th mu H d v o h c => ?_, fun th mu H d v ds vs d' mu' o h hs e Q q => ?_⟩
  · cases d with
    | str z => rw [show v = .str z from h]; rfl
    | _ => cases c
  · unfold splitF at e
    split at e
    · rename_i a b
      split at e
      · rename_i hl
        cases (Option.some.inj e)
        obtain ⟨w, rfl, hw⟩ := rpL1 hs
        have hw : w = .str b := hw
        subst hw
        refine ⟨a, b, h, rfl, hl.1, by rw [sizeLine_eq]; omega, fun p hp => ?_⟩
        refine q th _ _ ⟨Pfx.refl, o.ex (Evl.Ex.new hp), Gz_ex (Evl.Ex.new hp), fun x m => ?_⟩ (rp_newLst o hp (map_str_rp _))
        obtain ⟨_, u, hu, _⟩ := o.hid x m
        rw [upd_ne (ne_of_none hu hp)]
      · cases e
    · cases e
theorem cm_intS : CallM X g (.type "int") (pureF intSD) := by
  refine .mk' call_int_str fun th mu H ds vs d o hd e Q q => ?_
  unfold intSD at e
  split at e
  · rename_i z
    split at e
    · rename_i hl
      cases hi : PySem.intText? z with
      | none => rw [hi] at e; cases e
      | some n =>
        rw [hi] at e
        cases (Option.some.inj e)
        obtain ⟨v, rfl, hv⟩ := rpL1 hd
        have hv : v = .str z := hv
        subst hv
        exact ⟨z, n, rfl, hi, hl, q _ H (fun _ _ z => z) rfl⟩
    · cases e
  · cases e
theorem walks_e {th : Th} {G : Hp} {K : PySem.W.Frag} {a : Addr} {xs : List V} {ds : List D} (hs : SqL K G a xs) (hd : RpL g th G ds xs) : WalksD g th G (Ite K a) (ds.zipIdx.map fun p => .tup [.int (p.2 : Int), p.1]) := by
  intro th' mu' H' pf o ex i
  have eh : Ex G H' := ex.trans Gz_sub
  refine ⟨fun d e => ?_, fun e => ⟨xs, ex_l eh hs, by rw [hd.length, e]; simp⟩⟩
  rw [List.getElem?_map, List.getElem?_zipIdx] at e
  cases hi : ds[i]? with
  | none => rw [hi] at e; cases e
  | some d0 =>
    rw [hi] at e
    have e : D.tup [.int ((0 + i : Nat) : Int), d0] = d := Option.some.inj e
    rw [Nat.zero_add] at e
    subst e
    obtain ⟨v, e1, e2⟩ := hd.get hi
    refine ⟨⟨xs, v, ex_l eh hs, e1⟩, fun x H'' y => ?_⟩
    obtain ⟨T, x0, rfl, hT, rfl, y⟩ := y
    have e3 := y xs (ex_l eh hs)
    rw [e1] at e3
    have : v = x0 := Option.some.inj e3
    subst this
    refine ⟨Evl.Ex.new hT, ?_⟩
    exact rp_newTup o hT ⟨_, _, rfl, rfl, _, _, rfl, e2.monoI pf ex, rfl⟩
theorem pmi_enum (hK : X.K = g.K) (hm : X.mg "enumerate" = none) (ha : PA X [e] (canA g W mr)) (hg : Gl X "enumerate" := by rfl) (hs : starEach [e] X.env = [(false, eval e X.env)] := by rfl) :
    PI X (.Tuple elts kk tpos) (.Call (.Name "enumerate" p) [e] [] pos) (canI g W (mEnum mr)) :=
  PIimp (pi_enum hg hm ha hs) fun σ H R h => (can_bind (R := RA g) h).imp fun vs H1 ⟨ds, rh, mu1, th1, hd, r1, h1⟩ => by
    obtain ⟨es, e, q⟩ := canAt_lift r1 h1
    unfold enumD at e
    split at e
    · rename_i l
      cases (Option.some.inj e)
      obtain ⟨v, rfl, hv⟩ := rpL1 hd
      obtain ⟨a, xs, rfl, s1, r2⟩ := hv
      rw [hK]
      exact ⟨a, xs, rfl, SqL.of (Gz_sub _ _ s1), q th1 _ H1 (Fw.refl r1.ok) (walks_e (SqL.of s1) r2)⟩
    · cases e
end
end Eb

/-! Eb: exceptions made and raised. -/
namespace Eb
open PySem L2
open Evl (Ex ex_l ex_t)
/-! ### an own exception is made -/
section
variable {X : Cx} {pos p1 p2 : Pos}
/-- Base.__init__(self, ..), found in ValueError -/
theorem pe_beinit {x : Str} {C : Addr} {mc : Value} {e : Expr} {es : List Expr} {ta : TA} {pl : Sem Bool} (hg : Gl X x) (hm : X.mg x = some (.ref C)) (r : ClX.CRead X.K C mc)
    (k : PySem.W.findCls X.K (.ref C) mc "__init__" = some (.val (.builtin "ValueError.__init__"))) (ha : PA X (e :: es) ta) (hd : (x == ("__debug__" : Str)) = false := by decide)
    (hc : eval (.Call (.Attribute (.Name x p1) "__init__" p2) (e :: es) [] pos) X.env = (do let ov ← eval (.Name x p1) X.env; standAt p2.atName; let (f, first) ← holding [ov] (getMethod ov "__init__" pl); callWith pos f first (backTo pos (starEach (e :: es) X.env)) (backToKw pos (keywordEach [] X.env))) := by rfl)
    (he : starEach (e :: es) X.env = (false, eval e X.env) :: starEach es X.env := by rfl) (hpl : (backTo pos (starEach es X.env)).any (·.1) = false := by rfl) :
    PE X (.Call (.Attribute (.Name x p1) "__init__" p2) (e :: es) [] pos) (tVeI X.K ta) := by
  constructor
  intro pins s σ H Q I h
  refine PySem.W.methodCall_KW (ld_glob I hg hm (PySem.W.method_cls I.kIn r.ga (PySem.W.cls_value I.kIn r.rd k (by decide +kernel) ?_)) hd) hc
  show wpAny _ _ (callWith pos (Value.builtin "ValueError.__init__") [] (backTo pos (starEach (e :: es) X.env)) []) _ _ _
  refine PyProof.Rows.callWith_method1 (thn (ha.run pos pins _ σ H _ (I.tok _) h) fun us s1 z => ?_) he hpl
  obtain ⟨vs, H1, I1, rv, a, C', ws, rfl, hl, T, ea, q⟩ := z
  cases rv with
  | @cons _ u0 _ ur ra rr =>
    obtain rfl : u0 = Value.ref a := ra
    have hlen : ur.length ≤ sizeLine := by
      have z := Paired.length rr
      rw [sizeLine_eq]
      omega
    exact oinit_ok T I1 ea hlen fun s' J => ⟨.non, H1, J, rfl, q⟩
end
/-- fields stored one behind the other -/
def tOsts (K : PySem.W.Frag) : List (Str × Nat) → TS
  | [] => tNext
  | (f, i) :: r => tSeq (tOst K f (tVar 0) (tVar i)) (tOsts K r)
theorem osts_run {K : PySem.W.Frag} {C a dx : Addr} (T : OexC K C) {Dn : Ends} {σ : L2.St} (h0 : σ[0]? = some (some (.ref a))) (ne : dx ≠ a) :
    ∀ (l : List (Str × Nat)) (ws : List V) (H : Hp) (fs : List (Str × V)), H a = some (exo a C (some dx)) → H dx = some (exd dx fs) → fs.length + l.length ≤ 900 → (∀ p ∈ l, PySem.W.findIn K (.ref C) p.1 = some none) →
      l.length = ws.length → (∀ (j : Nat) p v, l[j]? = some p → ws[j]? = some v → σ[p.2]? = some (some v)) →
      (∀ H', H' a = some (exo a C (some dx)) → H' dx = some (exd dx (((l.map (·.1)).zip ws).reverse ++ fs)) → (∀ b, b ≠ a → b ≠ dx → H' b = H b) → Dn.nx σ H') → tOsts K l Dn σ H := by
  intro l
  induction l with
  | nil =>
    intro ws H fs ha hd _ _ hl _ k
    exact k H ha (by simpa using hd) fun _ _ _ => rfl
  | cons p l ih =>
    intro ws H fs ha hd hz hno hl hs k
    obtain ⟨f, i⟩ := p
    cases ws with
    | nil => simp at hl
    | cons v ws =>
      have hi : σ[i]? = some (some v) := hs 0 (f, i) v rfl rfl
      simp only [List.length_cons] at hz hl
      refine ⟨v, hi, .ref a, h0, a, C, rfl, T, hno (f, i) List.mem_cons_self, .inr ⟨dx, fs, ha, hd, by omega, ?_⟩⟩
      refine ih ws _ ((f, v) :: fs) ?_ upd_same (by simp only [List.length_cons]; omega) (fun p hp => hno p (List.mem_cons_of_mem _ hp)) (by omega) (fun j p w h1 h2 => hs (j + 1) p w (by simpa using h1) (by simpa using h2)) ?_
      · rw [upd_ne (Ne.symm ne)]; exact ha
      · intro H' e1 e2 e3
        refine k H' e1 ?_ fun b h1 h2 => by rw [e3 b h1 h2, upd_ne h2]
        rw [e2]
        simp
/-- an exception's own __init__, called on a new one -/
def spEI (g : Gam) (c n : Nat) : Sp := fun vs H Q _ => ∃ a ws, vs = .ref a :: ws ∧ ws.length = n ∧ H a = some (exo a (g.cls c) none) ∧
  ∀ dx H', H dx = none → dx ≠ a → H' a = some (exo a (g.cls c) (some dx)) → H' dx = some (exd dx ((g.flds c).zip ws.reverse)) → (∀ b, b ≠ a → b ≠ dx → H' b = H b) → Q .non H'
theorem ei_read {K : PySem.W.Frag} {g : Gam} {c n : Nat} {f1 : Str} {l : List (Str × Nat)} {N : List Str} (T : OexC K (g.cls c)) (hl : l.length + 1 = n) (hn : n ≤ 100) (hi : ∀ (j : Nat) p, ((f1, 1) :: l)[j]? = some p → p.2 = j + 1)
    (hno : ∀ p ∈ (f1, 1) :: l, PySem.W.findIn K (.ref (g.cls c)) p.1 = some none) (hrev : ∀ ws : List V, ws.length = n → ((((f1, 1) :: l).map (·.1)).zip ws).reverse = (g.flds c).zip ws.reverse)
    {vs : List V} {H : Hp} {Q : VK} {E : XK} (h : spEI g c n vs H Q E) : tSeq (tDrop (tVeI K (tCons (tVar 0) (tCons (tVar 1) tNil)))) (tOsts K ((f1, 1) :: l)) { nx := fun _ H' => Q .non H', rt := Q } (L2.start N vs) H := by
  obtain ⟨a, ws, rfl, hw, ha, k⟩ := h
  have slot : ∀ (j : Nat) v, (V.ref a :: ws)[j]? = some v → (L2.start N (V.ref a :: ws))[j]? = some (some v) := fun j v e => by
    unfold L2.start
    have hj := (List.getElem?_eq_some_iff.mp e).1
    rw [List.getElem?_append_left (by simpa using hj), List.getElem?_map, e]
    rfl
  cases ws with
  | nil => simp at hw; omega
  | cons w1 ws =>
    simp only [List.length_cons] at hw
    have s0 := slot 0 (.ref a) rfl
    have s1 := slot 1 w1 rfl
    refine ⟨.ref a, s0, w1, s1, a, g.cls c, [w1], rfl, by simp, T, ha, ?_⟩
    refine ⟨w1, s1, .ref a, s0, a, g.cls c, rfl, T, hno _ List.mem_cons_self, .inl ⟨ha, fun dx hx ne => ?_⟩⟩
    refine osts_run T s0 ne l ws _ [(f1, w1)] upd_same (by rw [upd_ne ne, upd_same]) (by simp only [List.length_cons, List.length_nil]; omega) (fun p hp => hno p (List.mem_cons_of_mem _ hp)) (by omega) (fun j p v h1 h2 => ?_) fun H' e1 e2 e3 => ?_
    · have z := hi (j + 1) p (by simpa using h1)
      rw [z]
      exact slot (j + 2) v (by simpa using h2)
    · refine k dx H' hx ne e1 ?_ fun b h1 h2 => ?_
      · rw [e2, ← hrev (w1 :: ws) (by simpa using hw)]
        simp
      · rw [e3 b h1 h2, upd_ne h1, upd_ne h2]
theorem RpL.snoc {g : Gam} {th : Th} {G : Hp} {ds : List D} {vs : List V} {d : D} {v : V} (h : RpL g th G ds vs) (h' : Rp g th G d v) : RpL g th G (ds ++ [d]) (vs ++ [v]) := RpL.append h ⟨v, [], rfl, h', rfl⟩
theorem RpL.rev {g : Gam} {th : Th} {G : Hp} : ∀ {ds : List D} {vs : List V}, RpL g th G ds vs → RpL g th G ds.reverse vs.reverse
  | [], vs, h => by
    rw [show vs = [] from h]
    exact rfl
  | d :: ds, vs, h => by
    obtain ⟨v, r, e1, e2, e3⟩ := h
    rw [e1, List.reverse_cons, List.reverse_cons]
    exact (RpL.rev e3).snoc e2
/-! ### raise -/
def sRaise (c n : Nat) (mr : M (List D)) : MS := bindS mr fun ds rh mu => if ds.length = n then some (.er ⟨c, ds.reverse⟩ rh, mu) else none
/-- .. of a class without own __init__ -/
def sRaise0 (c : Nat) : MS := fun rh mu => some (.er ⟨c, []⟩ rh, mu)
section
variable {X : Cx} {CX : CXT} {k : Nat} {f : Addr} {fd : FuncData} {ps : List Str} {g : Gam} {W : WX} {x : Str} {p p2 pos pos2 : Pos} {e : Expr} {es : List Expr} {mr : M (List D)}
theorem pm_raise (c n : Nat) (hn : n ≤ 100) (hc : X.calm = true) (tk : Takes X W) (T : OexC X.K (g.cls c)) (iC : PySem.W.findIn X.K (.ref (g.cls c)) "__init__" = some (some (.ref f))) (tI : PySem.W.typeIn X.K (.ref f) = some (.type "function"))
    (F : FnOk X.prog X.w X.K X.mg X.base CX k f fd ps (spEI g c n)) (hr : Room (k + 1) X.A) (hb : Binds X.K fd ps []) (hx : Passes CX X (fun _ _ _ => False)) (hm : X.mg x = some (.ref (g.cls c)))
    (ha : PA X (e :: es) (canA g W mr)) (hg : Gl X x := by rfl) (hdb : (x == ("__debug__" : Str)) = false := by decide) (he : starEach (e :: es) X.env = (false, eval e X.env) :: starEach es X.env := by rfl) (hpl : (backTo pos (starEach es X.env)).any (·.1) = false := by rfl) :
    PS X (.Raise (some (.Call (.Name x p) (e :: es) [] pos)) none pos2) (canS g W (sRaise c n mr)) :=
  PSimp (ps_raise hc tk (pmk_oex T iC tI F hr hb .nil hx hg hm ha hdb he hpl)) fun Dn σ H h => (canS_bind (R := RA g) h).imp fun vs H1 ⟨ds, rh, mu1, th1, hd, r1, o, mu', e1, q⟩ => by
    have e1 : (if ds.length = n then some (Out.er ⟨c, ds.reverse⟩ rh, mu1) else none) = some (o, mu') := e1
    split at e1
    · rename_i hl
      have e' := Option.some.inj e1
      cases e'
      have lv := hd.length
      refine ⟨by omega, fun a na => ⟨a, vs ++ [], rfl, by simpa [lv] using hl, upd_same, fun dx H2 hx ne e2 e3 e4 => ⟨rfl, dx, (g.flds c).zip (vs ++ []).reverse, e2, e3, ?_, ?_⟩⟩⟩
      · rw [upd_ne ne] at hx; exact hx
      · have hx : H1 dx = none := by rw [upd_ne ne] at hx; exact hx
        have eH : upd (del H2 a) dx (.xd ((g.flds c).zip (vs ++ []).reverse)) = upd H1 dx (.xd ((g.flds c).zip vs.reverse)) := by
          rw [List.append_nil]
          funext b
          by_cases hb : b = dx
          · subst hb; rw [upd_same, upd_same]
          · rw [upd_ne hb, upd_ne hb]
            by_cases ha : b = a
            · subst ha; rw [del_same, na]
            · rw [del_ne ha, e4 b ha hb, upd_ne ha]
        rw [eH]
        have ex : Ex H1 (upd H1 dx (.xd ((g.flds c).zip vs.reverse))) := Evl.Ex.new hx
        have fh := Fw.heap r1.ok ex
        refine q th1 _ _ σ _ fh (r1.fw fh) ⟨rfl, .inr ⟨dx, _, vs.reverse, rfl, ?_, rfl, (RpL.mono fh.pf fh.ex _ _ hd).rev⟩⟩
        unfold Gz
        rw [if_neg (r1.ok.new hx)]
        exact upd_same
    · cases e1
theorem pm_raise0 (c : Nat) {m : Str} {j : Nat} {bmB : List Value} {B newId initId : String} (hc : X.calm = true) (tk : Takes X W) (F : ExcBaseFacts B newId initId bmB) (hq : PySem.W.excIn X.K (g.cls c) bmB newId = true) (hm : X.mg x = some (.ref (g.cls c)))
    (kC : PySem.W.keepIn X.K (.ref (g.cls c)) = true) (h1 : PySem.W.subIn X.K (.ref (g.cls c)) (.type "BaseException") = some true) (h2 : PySem.W.typeIn X.K (.ref (g.cls c)) = some (.type "type")) (hg : Gl X x := by rfl) (hdb : (x == ("__debug__" : Str)) = false := by decide) :
    PS X (.Raise (some (.Call (.Name x p) [.Constant (.str m) j p2] [] pos)) none pos2) (canS g W (sRaise0 c)) :=
  PSimp (ps_raise hc tk (pmk_own F hq hm kC (raises_own h1 h2) hg hdb)) fun Dn σ H ⟨rh, mu, th, r, o, mu', e, q⟩ => by
    have e' : (Out.er ⟨c, []⟩ rh, mu) = (o, mu') := Option.some.inj e
    cases e'
    exact q th _ _ σ H (Fw.refl r.ok) r ⟨rfl, .inl ⟨rfl, rfl⟩⟩
end
end Eb

/-! Eb: exceptions caught. -/
namespace Eb
open PySem L2
open Evl (Ex ex_l ex_t)
/-- within a suite -/
def Gam.at (g : Gam) (z : Option (Addr × Nat × Option Addr)) : Gam := { g with xc := z }
/-! ### into a suite and out of it -/
section
variable {g : Gam} {z : Option (Addr × Nat × Option Addr)} {th : Th} {G H : Hp} {mu : Mu}
mutual
theorem Rp.up (hx : g.xc = none) : ∀ (d : D) (v : V), Rp g th G d v → Rp (g.at z) th G d v
  | .non, v, h => h
  | .bl _, v, h => h
  | .int _, v, h => h
  | .str _, v, h => h
  | .tup ds, v, h => by
    obtain ⟨a, xs, e1, e2, e3⟩ := h
    exact ⟨a, xs, e1, e2, RpL.up hx ds xs e3⟩
  | .lst ds, v, h => by
    obtain ⟨a, xs, e1, e2, e3⟩ := h
    exact ⟨a, xs, e1, e2, RpL.up hx ds xs e3⟩
  | .ins k ds, v, h => by
    obtain ⟨a, dx, ys, xs, e1, e2, e3, e4, e5⟩ := h
    exact ⟨a, dx, ys, xs, e1, e2, e3, e4, RpL.up hx ds xs e5⟩
  | .set ns, v, h => h
  | .cel k, v, h => h
  | .scr ns, v, h => h
  | .ty _, v, h => h
  | .cls _, v, h => h
  | .dic ks ds, v, h => by
    obtain ⟨a, o, xs, e1, e2, e3, e4, e5, e6⟩ := h
    exact ⟨a, o, xs, e1, e2, e3, e4, e5, RpL.up hx ds xs e6⟩
  | .exn _ _, v, h => by
    obtain ⟨a, dd, e1, _⟩ := h
    rw [hx] at e1; cases e1
theorem RpL.up (hx : g.xc = none) : ∀ (ds : List D) (vs : List V), RpL g th G ds vs → RpL (g.at z) th G ds vs
  | [], vs, h => h
  | d :: ds, vs, h => by
    obtain ⟨v, r, e1, e2, e3⟩ := h
    exact ⟨v, r, e1, Rp.up hx d v e2, RpL.up hx ds r e3⟩
end
mutual
/-- no caught exception within -/
def xf : D → Bool
  | .tup ds => xfL ds
  | .lst ds => xfL ds
  | .ins _ ds => xfL ds
  | .dic _ ds => xfL ds
  | .exn _ _ => false
  | .cel _ => true
  | .non => true
  | .bl _ => true
  | .int _ => true
  | .str _ => true
  | .set _ => true
  | .scr _ => true
  | .ty _ => true
  | .cls _ => true
def xfL : List D → Bool
  | [] => true
  | d :: ds => xf d && xfL ds
end
mutual
theorem Rp.dn : ∀ (d : D) (v : V), xf d = true → Rp (g.at z) th G d v → Rp g th G d v
  | .non, v, _, h => h
  | .bl _, v, _, h => h
  | .int _, v, _, h => h
  | .str _, v, _, h => h
  | .tup ds, v, c, h => by
    obtain ⟨a, xs, e1, e2, e3⟩ := h
    exact ⟨a, xs, e1, e2, RpL.dn ds xs c e3⟩
  | .lst ds, v, c, h => by
    obtain ⟨a, xs, e1, e2, e3⟩ := h
    exact ⟨a, xs, e1, e2, RpL.dn ds xs c e3⟩
  | .ins k ds, v, c, h => by
    obtain ⟨a, dx, ys, xs, e1, e2, e3, e4, e5⟩ := h
    exact ⟨a, dx, ys, xs, e1, e2, e3, e4, RpL.dn ds xs c e5⟩
  | .set ns, v, _, h => h
  | .cel k, v, _, h => h
  | .scr ns, v, _, h => h
  | .ty _, v, _, h => h
  | .cls _, v, _, h => h
  | .dic ks ds, v, c, h => by
    obtain ⟨a, o, xs, e1, e2, e3, e4, e5, e6⟩ := h
    exact ⟨a, o, xs, e1, e2, e3, e4, e5, RpL.dn ds xs c e6⟩
  | .exn _ _, v, c, h => by cases c
theorem RpL.dn : ∀ (ds : List D) (vs : List V), xfL ds = true → RpL (g.at z) th G ds vs → RpL g th G ds vs
  | [], vs, _, h => h
  | d :: ds, vs, c, h => by
    obtain ⟨v, r, e1, e2, e3⟩ := h
    have c : (xf d && xfL ds) = true := c
    rw [Bool.and_eq_true] at c
    exact ⟨v, r, e1, Rp.dn d v c.1 e2, RpL.dn ds r c.2 e3⟩
end
theorem CellOk.up {a : Addr} {c : Cell} (hx : g.xc = none) (h : CellOk g th G H a c) : CellOk (g.at z) th G H a c := by
  cases c with
  | lst ds => obtain ⟨xs, e1, e2⟩ := h; exact ⟨xs, e1, RpL.up hx _ _ e2⟩
  | dic ks ds => obtain ⟨xs, e1, e2, e3, e4, e5⟩ := h; exact ⟨xs, e1, e2, e3, e4, RpL.up hx _ _ e5⟩
  | ins k ds => obtain ⟨dx, ys, xs, e1, e2, e3, e4⟩ := h; exact ⟨dx, ys, xs, e1, e2, e3, RpL.up hx _ _ e4⟩
  | dead => trivial
def xfC : Cell → Bool
  | .lst ds => xfL ds
  | .dic _ ds => xfL ds
  | .ins _ ds => xfL ds
  | .dead => true
theorem CellOk.dn {a : Addr} {c : Cell} (f : xfC c = true) (h : CellOk (g.at z) th G H a c) : CellOk g th G H a c := by
  cases c with
  | lst ds => obtain ⟨xs, e1, e2⟩ := h; exact ⟨xs, e1, RpL.dn _ _ f e2⟩
  | dic ks ds => obtain ⟨xs, e1, e2, e3, e4, e5⟩ := h; exact ⟨xs, e1, e2, e3, e4, RpL.dn _ _ f e5⟩
  | ins k ds => obtain ⟨dx, ys, xs, e1, e2, e3, e4⟩ := h; exact ⟨dx, ys, xs, e1, e2, e3, RpL.dn _ _ f e4⟩
  | dead => trivial
theorem Ok.up (hx : g.xc = none) (o : Ok g th mu H) : Ok (g.at z) th mu H := ⟨o.len, o.nod, fun i a c e1 e2 => (o.cel i a c e1 e2).up hx, o.hid⟩
/-- cells that still hold the exception are forgotten -/
def kx (c : Cell) : Cell := if xfC c = true then c else .dead
theorem kx_live {c : Cell} (h : (kx c).live = true) : c.live = true := by
  unfold kx at h
  split at h
  · exact h
  · cases h
theorem own_kx : ∀ (ids : List Addr) (mu : Mu), (own ids (mu.map kx)).Sublist (own ids mu)
  | [], mu => by simp [own]
  | a :: ids, [] => by simp [own]
  | a :: ids, c :: mu => by
    show (own (a :: ids) (kx c :: mu.map kx)).Sublist (own (a :: ids) (c :: mu))
    unfold own
    by_cases h : (kx c).live = true
    · rw [if_pos h, if_pos (kx_live h)]; exact (own_kx ids mu).cons_cons _
    · rw [if_neg h]
      by_cases h' : c.live = true
      · rw [if_pos h']; exact (own_kx ids mu).cons _
      · rw [if_neg h']; exact own_kx ids mu
theorem gz_kx : Ex (Gz th mu H) (Gz th (mu.map kx) H) := fun a u q => by
  unfold Gz at q ⊢
  by_cases m : a ∈ own th.ids mu ∨ a ∈ th.hid
  · rw [if_pos m] at q; cases q
  · rw [if_neg m] at q
    rw [if_neg fun y => m (y.imp (fun y => (own_kx th.ids mu).subset y) id)]
    exact q
theorem Ok.dn (o : Ok (g.at z) th mu H) : Ok g th (mu.map kx) H := ⟨by simp [o.len], o.nod.sublist (own_kx _ _), fun i a c e1 e2 => by
  rw [List.getElem?_map] at e2
  cases hc : mu[i]? with
  | none => rw [hc] at e2; cases e2
  | some c0 =>
    rw [hc] at e2
    have e2 : kx c0 = c := Option.some.inj e2
    unfold kx at e2
    split at e2
    · rename_i f
      subst e2
      exact ((o.cel i a c0 e1 hc).dn f).mono Pfx.refl gz_kx rfl
    · subst e2
      trivial, fun a m => by
  obtain ⟨n, r⟩ := o.hid a m
  exact ⟨fun y => n ((own_kx th.ids mu).subset y), r⟩⟩
end
/-! ### try: .. except C as e: .. -/
def xfR : Rho → Bool
  | [] => true
  | none :: r => xfR r
  | some d :: r => xf d && xfR r
theorem xfR_get : ∀ {r : Rho} {i : Nat} {d : D}, xfR r = true → r[i]? = some (some d) → xf d = true
  | [], i, d, _, h => by simp at h
  | none :: r, 0, d, _, h => by simp at h
  | none :: r, i + 1, d, f, h => xfR_get (r := r) (i := i) f (by simpa using h)
  | some y :: r, 0, d, f, h => by
    have : y = d := by simpa using h
    subst this
    have f : (xf y && xfR r) = true := f
    rw [Bool.and_eq_true] at f
    exact f.1
  | some y :: r, i + 1, d, f, h => by
    have f : (xf y && xfR r) = true := f
    rw [Bool.and_eq_true] at f
    exact xfR_get (r := r) (i := i) f.2 (by simpa using h)
/-- what the clause does with an outcome -/
def exOut (i : Nat) : Option (Out × Mu) → Option (Out × Mu)
  | some (.nx r, mu) => if xfR (r.set i none) = true then some (.nx (r.set i none), mu.map kx) else none
  | some (.rt d, mu) => if xf d = true then some (.rt d, mu.map kx) else none
  | _ => none
def sTry (sb : MS) (t : Nat → Option Bool) (i : Nat) (ss : MS) : MS := fun rh mu => match sb rh mu with
  | some (.er x r, mu1) => match t x.c with
    | some true => exOut i (ss (r.set i (some (.exn x.c x.fs))) mu1)
    | some false => some (.er x r, mu1)
    | none => none
  | o => o
section
variable {X : Cx} {g : Gam} {W : WX} {x n : Str} {i : Nat} {body suite : List Stmt} {b₀ : Stmt} {np pos pos' : Pos} {sb ss : MS} {t : Nat → Option Bool}
/-- the suite, the exception at a, of the class cls, its dict at d -/
def tsX (g : Gam) (ss : MS) (a : Addr) (cls : Value) (d : Option Addr) : TS := fun Dn σ H => ∃ c, cls = .ref (g.cls c) ∧ canS (g.at (some (a, c, d))) (fun _ _ _ _ => False) ss Dn σ H
theorem pms_try {j : Nat} (hs : X.stack = X.env :: X.outer) (hf : X.env.frame = some X.env.locals) (hN : X.N.Nodup) (hi : X.N[i]? = some n) (hln : X.env.kindOf n = some .local) (hc : Names X x (.ref (g.cls j))) (tk : Takes X W) (hx : g.xc = none)
    (ht : ∀ c b, t c = some b → PySem.W.exmOne X.K (.ref (g.cls c)) (.ref (g.cls j)) = some b)
    (hb : ∀ (W' : WX) (pn : List (Addr × Obj)) (xe : Value → Shared → Prop), Takes (X.tr pn xe) W' → PassesOwn (model X.prog X.w) X.A X.env xe → PSs (X.tr pn xe) body (canS g W' sb))
    (hsu : ∀ (a : Addr) (oe : Obj) (c : Nat) (d : Option Addr) (pn : List (Addr × Obj)), Zc (.ref (g.cls c)) d oe → (∃ vs, oe.data = .fields vs) → PSs (X.suite a ((a, oe) :: pn)) (b₀ :: suite) (canS (g.at (some (a, c, d))) (fun _ _ _ _ => False) ss)) :
    PS X (.Try body [.ExceptHandler (some (.Name x np)) (some n) (b₀ :: suite) pos'] [] [] pos) (canS g W (sTry sb t i ss)) := by
  refine PSimp (ps_try_as (i := i) (ts := tsX g ss) (tb := fun W' => canS g W' sb) hs hf hN hi hln hc tk hb fun a oe cls d pn hz hv => ?_) fun Dn σ H h => ?_
  · constructor
    rintro pins s σ H Dn I ⟨c, rfl, h⟩
    exact (hsu a oe c d pn hz hv).run pins s σ H Dn I h
  · obtain ⟨rh, mu, th, r, o, mu', e, q⟩ := h
    refine ⟨rh, mu, th, r, ?_⟩
    unfold sTry at e
    cases hb0 : sb rh mu with
    | none => rw [hb0] at e; cases e
    | some p =>
      obtain ⟨ob, mub⟩ := p
      rw [hb0] at e
      refine ⟨ob, mub, hb0, ?_⟩
      cases ob with
      | nx r' => cases (Option.some.inj e); exact q
      | rt d => cases (Option.some.inj e); exact q
      | bk r' => cases (Option.some.inj e); exact q
      | ct r' => cases (Option.some.inj e); exact q
      | er x r' =>
        have e : (match t x.c with
          | some true => exOut i (ss (r'.set i (some (.exn x.c x.fs))) mub)
          | some false => some (.er x r', mub)
          | none => none) = some (o, mu') := e
        intro th1 cls dd σ1 H1 f1 r1 hx1
        cases htc : t x.c with
        | none => rw [htc] at e; cases e
        | some b =>
          rw [htc] at e
          have hcls := hx1.1
          refine ⟨b, by rw [hcls]; exact ht _ _ htc, fun hbt a na => ?_, fun hbf => ?_⟩
          · subst hbt
            refine ⟨x.c, hcls, r'.set i (some (.exn x.c x.fs)), mub, th1, ?_, ?_⟩
            · have ou := r1.ok.up (z := some (a, x.c, dd)) hx
              have ru : Rl (g.at (some (a, x.c, dd))) r' mub th1 σ1 H1 := ⟨ou, r1.len, fun k d ek => by
                obtain ⟨v, e1, e2⟩ := r1.slt k d ek
                exact ⟨v, e1, Rp.up hx d v e2⟩⟩
              refine ru.set i ⟨a, dd, rfl, rfl, ?_⟩
              rcases hx1.2 with ⟨h1, h2⟩ | ⟨da, ys, xs, h1, h2, h3, h4⟩
              · exact .inl ⟨h1, h2⟩
              · exact .inr ⟨da, ys, xs, h1, h2, h3, RpL.up hx _ _ h4⟩
            · have e : exOut i (ss (r'.set i (some (.exn x.c x.fs))) mub) = some (o, mu') := e
              cases hss : ss (r'.set i (some (.exn x.c x.fs))) mub with
              | none => rw [hss] at e; cases e
              | some p2 =>
                obtain ⟨o2, mu2⟩ := p2
                rw [hss] at e
                refine ⟨o2, mu2, hss, ?_⟩
                have back : ∀ th' H', Fw (g.at (some (a, x.c, dd))) th1 mub H1 th' mu2 H' → Fw g th mu H th' (mu2.map kx) H' := fun th' H' f =>
                  f1.trans ⟨f.pf, f.ok.dn, f.ex.trans gz_kx, f.hd⟩
                cases o2 with
                | nx r2 =>
                  have e : (if xfR (r2.set i none) = true then some (Out.nx (r2.set i none), mu2.map kx) else none) = some (o, mu') := e
                  split at e
                  · rename_i hr
                    cases (Option.some.inj e)
                    intro th' σ' H' f rl
                    refine q th' (σ'.set i none) H' (back th' H' f) ⟨f.ok.dn, by simp [rl.len], fun k d ek => ?_⟩
                    by_cases hk : k = i
                    · subst hk
                      by_cases hl : k < r2.length
                      · rw [List.getElem?_set_self hl] at ek; cases ek
                      · rw [List.getElem?_eq_none (by simpa using hl)] at ek; cases ek
                    · have fd := xfR_get hr ek
                      rw [List.getElem?_set_ne (Ne.symm hk)] at ek ⊢
                      obtain ⟨v, e1, e2⟩ := rl.slt k d ek
                      exact ⟨v, e1, (Rp.dn d v fd e2).mono Pfx.refl gz_kx⟩
                  · cases e
                | rt d =>
                  have e : (if xf d = true then some (Out.rt d, mu2.map kx) else none) = some (o, mu') := e
                  split at e
                  · rename_i fd
                    cases (Option.some.inj e)
                    intro th' v H' f hv
                    exact q th' v H' (back th' H' f) ((Rp.dn d v fd hv).mono Pfx.refl gz_kx)
                  · cases e
                | bk r2 => cases e
                | ct r2 => cases e
                | er x2 r2 => cases e
          · subst hbf
            cases (Option.some.inj e)
            exact q th1 cls dd σ1 H1 f1 r1 hx1
end
/-! ### isinstance of the exception, its fields -/
/-- the own exceptions: 2 to 6, all below 7 -/
def excSub (i j : Nat) : Bool := decide (i = j) || decide (j = 7)
/-- what an exception's class must say -/
structure ExcT (K : PySem.W.Frag) (C : Addr) (fs : List Str) : Prop where
  xf : XfC K C
  ic : (PySem.W.clsIn K C).isSome = true
  ca : PySem.W.findIn K (.ref C) "__class__" = some (some (.builtin "object.__class__"))
  hn : PySem.W.specialIn K (.builtin "object.__class__") "__get__" = some (some (.builtin "getset_descriptor.__get__"))
  ht : PySem.W.takesIn K (.builtin "object.__class__") = some true
  hm : PySem.W.mroIn K C (.type "object") = some true
  na : ∀ f ∈ fs, PySem.W.findIn K (.ref C) f = some none
/-- the own exceptions all together -/
structure ExcA (K : PySem.W.Frag) (cls : Nat → Addr) : Prop where
  cl : ∀ i, 2 ≤ i → i ≤ 6 → ExcT K (cls i) (fldsT i)
  one : ∀ i j, 2 ≤ i → i ≤ 6 → 2 ≤ j → j ≤ 7 → PySem.W.kitOne K (.ref (cls i)) (.ref (cls j)) = some (excSub i j)
  ve : ∀ i, 2 ≤ i → i ≤ 6 → PySem.W.kitOne K (.ref (cls i)) (.type "ValueError") = some true
  exm : ∀ i j, 2 ≤ i → i ≤ 6 → 2 ≤ j → j ≤ 7 → PySem.W.exmOne K (.ref (cls i)) (.ref (cls j)) = some (excSub i j)
/-- does the clause of the class j take one of the class c -/
def exT (j : Nat) (c : Nat) : Option Bool := if 2 ≤ c ∧ c ≤ 6 then some (excSub c j) else none
theorem ExcA.ht {K : PySem.W.Frag} {cls : Nat → Addr} (A : ExcA K cls) {j : Nat} (h1 : 2 ≤ j) (h2 : j ≤ 7) : ∀ c b, exT j c = some b → PySem.W.exmOne K (.ref (cls c)) (.ref (cls j)) = some b := fun c b e => by
  unfold exT at e
  split at e
  · rename_i h
    cases (Option.some.inj e)
    exact A.exm c j h.1 h.2 h1 h2
  · cases e
def clsNo : D → Option Nat
  | .cls n => if 2 ≤ n ∧ n ≤ 7 then some n else none
  | _ => none
def clsNos : List D → Option (List Nat)
  | [] => some []
  | d :: ds => (clsNo d).bind fun n => (clsNos ds).map (n :: ·)
def isED (_ : Mu) : List D → Option D
  | [.exn c _, .cls n] => if 2 ≤ c ∧ c ≤ 6 ∧ 2 ≤ n ∧ n ≤ 7 then some (.bl (excSub c n)) else none
  | [.exn c _, .tup ds] => if 2 ≤ c ∧ c ≤ 6 then (clsNos ds).map fun ns => .bl (ns.any (excSub c)) else none
  | [.exn c _, .ty "ValueError"] => if 2 ≤ c ∧ c ≤ 6 then some (.bl true) else none
  | _ => none
/-- the reading at the heap's level -/
def rIsX (K : PySem.W.Frag) (a C : Addr) (dd : Option Addr) : List V → Hp → VK → Prop := fun xs H Q => (dd = none ∨ ∃ da ys, dd = some da ∧ H da = some (.xd ys)) ∧ ∃ (b : Bool) (y : V), xs = [.ref a, y] ∧
  ((∃ cv, (∀ u, RelV y u → u = cv) ∧ PySem.W.kitOne K (.ref C) cv = some b) ∨ (∃ (p : Addr) (cs : List Addr), y = .ref p ∧ SqT K H p (cs.map V.ref) ∧ PySem.W.kitAny K (.ref C) (cs.map Value.ref) = some b)) ∧ Q (.bl b) H
section
variable {X : Cx} {g : Gam} {W : WX} {a : Addr} {oe : Obj} {c : Nat} {dd : Option Addr} {pn : List (Addr × Obj)}
theorem cr_isX {C : Addr} {fs : List Str} (T : ExcT X.K C fs) (hz : Zc (.ref C) dd oe) (hf : ∃ vs, oe.data = .fields vs) : CallR (X.suite a ((a, oe) :: pn)) (.builtin "isinstance") (rIsX X.K a C dd) := by
  intro pins s σ H xs us Q I r h
  obtain ⟨hd, b, y, rfl, hy, q⟩ := h
  obtain ⟨hget, _⟩ := I.pin (a, oe) (List.mem_append.mpr (.inl List.mem_cons_self))
  obtain ⟨vs, hv⟩ := hf
  have no : PySem.W.notCls oe = true := by unfold PySem.W.notCls; rw [hv] <;> rfl
  have J : ∃ od, PySem.W.InstAt s.heap a oe C od := by
    rcases hd with hd | ⟨da, ys, hd, hH⟩
    · exact ⟨none, hget, hz.1, no, by rw [hz.2, hd]; trivial⟩
    · have hx : ObjOk X.prog X.w H s.heap da (.xd ys) := I.hok da _ hH
      obtain ⟨mA, hns, _⟩ := hx
      obtain ⟨od, ho, _⟩ := lookIn_ns hns
      exact ⟨some od, hget, hz.1, no, by rw [hz.2, hd]; exact ho⟩
  obtain ⟨od, J⟩ := J
  have Z := PySem.W.kitx_exc (x := a) (ox := oe) (od := od) T.ic T.xf.ga T.xf.gg T.xf.exC T.ca T.hn T.ht T.hm
  have fin : ∀ tk, EP (X.suite a ((a, oe) :: pn)) pins σ Q (.bool b) { s with toks := tk } := fun tk => ⟨.bl b, H, I.kept (t' := tk) fun _ _ z => z, rfl, q⟩
  cases r with
  | cons rx rr =>
    cases rr with
    | cons rt rr =>
      cases rr
      cases rx
      rcases hy with ⟨cv, hcv, e⟩ | ⟨p, cs, rfl, hs, e⟩
      · have ec := hcv _ rt
        subst ec
        exact PySem.W.kia_one Z I.kIn J e (fun z => nomatch z) fin
      · cases rt
        obtain ⟨its, rv, ht, _⟩ := I.tuple hs
        have ei := Eb.vals_refs rv
        subst ei
        obtain ⟨⟨ocl, odi, oda, osl⟩, ho, hc, n, hdt⟩ := ht
        dsimp only at hc hdt
        subst hc hdt
        exact PySem.W.kia_tup Z I.kIn J ho e (fun z => nomatch z) fin
theorem clsNos_eq {th : Th} {G : Hp} : ∀ {ds : List D} {vs : List V} {ns : List Nat}, RpL g th G ds vs → clsNos ds = some ns → vs = (ns.map g.cls).map V.ref ∧ ∀ n ∈ ns, 2 ≤ n ∧ n ≤ 7
  | [], vs, ns, h, e => by
    cases (Option.some.inj e)
    exact ⟨h, fun n hn => by cases hn⟩
  | d :: ds, vs, ns, h, e => by
    obtain ⟨v, r, rfl, h1, h2⟩ := h
    have e : (clsNo d).bind (fun n => (clsNos ds).map (n :: ·)) = some ns := e
    cases hd : clsNo d with
    | none => rw [hd] at e; cases e
    | some n =>
      rw [hd] at e
      have e : (clsNos ds).map (n :: ·) = some ns := e
      cases hds : clsNos ds with
      | none => rw [hds] at e; cases e
      | some ms =>
        rw [hds] at e
        cases (Option.some.inj e)
        obtain ⟨rfl, hm⟩ := clsNos_eq h2 hds
        unfold clsNo at hd
        split at hd
        · split at hd
          · rename_i hb
            cases (Option.some.inj hd)
            have h1 : v = .ref (g.cls n) := h1
            subst h1
            exact ⟨rfl, fun m hm' => by
              rcases List.mem_cons.mp hm' with rfl | z
              · exact hb
              · exact hm m z⟩
          · cases hd
        · cases hd
theorem kitAny_eq {K : PySem.W.Frag} {cls : Nat → Addr} (A : ExcA K cls) {c : Nat} (h1 : 2 ≤ c) (h2 : c ≤ 6) : ∀ ns : List Nat, (∀ n ∈ ns, 2 ≤ n ∧ n ≤ 7) → PySem.W.kitAny K (.ref (cls c)) ((ns.map cls).map Value.ref) = some (ns.any (excSub c))
  | [], _ => rfl
  | n :: ns, h => by
    have hn := h n List.mem_cons_self
    have e := A.one c n h1 h2 hn.1 hn.2
    have ih := kitAny_eq A h1 h2 ns fun m hm => h m (List.mem_cons_of_mem _ hm)
    show PySem.W.kitAny K (.ref (cls c)) (.ref (cls n) :: (ns.map cls).map Value.ref) = _
    unfold PySem.W.kitAny
    rw [e, List.any_cons]
    cases excSub c n with
    | true => rfl
    | false => simpa using ih
theorem cm_isE (A : ExcA X.K g.cls) (hx : g.xc = some (a, c, dd)) (hK : X.K = g.K) (hz : Zc (.ref (g.cls c)) dd oe) (hf : ∃ vs, oe.data = .fields vs) : CallM (X.suite a ((a, oe) :: pn)) g (.builtin "isinstance") (pureF isED) := by
  by_cases hc : 2 ≤ c ∧ c ≤ 6
  · refine .mk' (cr_isX (A.cl c hc.1 hc.2) hz hf) fun th mu H ds vs d o hd e Q q => ?_
    have key : ∀ {c' : Nat} {fs : List D} {v : V}, Rp g th (Gz th mu H) (.exn c' fs) v → c' = c ∧ v = .ref a ∧ (dd = none ∨ ∃ da ys, dd = some da ∧ H da = some (.xd ys)) := fun {c' fs v} h => by
      obtain ⟨a', dd', e1, e2, e3⟩ := h
      rw [hx] at e1
      cases (Option.some.inj e1)
      refine ⟨rfl, e2, ?_⟩
      rcases e3 with ⟨_, e3⟩ | ⟨da, ys, xs, e3, e4, _⟩
      · exact .inl e3
      · exact .inr ⟨da, ys, e3, Gz_sub _ _ e4⟩
    unfold isED at e
    split at e
    · rename_i c' fs n
      split at e
      · rename_i hb
        cases (Option.some.inj e)
        obtain ⟨v, w, rfl, hv, hw⟩ := rpL2 hd
        obtain ⟨rfl, rfl, hdd⟩ := key hv
        have hw : w = .ref (g.cls n) := hw
        subst hw
        exact ⟨hdd, _, _, rfl, .inl ⟨.ref (g.cls n), fun u r => r, A.one c' n hb.1 hb.2.1 hb.2.2.1 hb.2.2.2⟩, q _ H (fun _ _ z => z) rfl⟩
      · cases e
    · rename_i c' fs es
      split at e
      · rename_i hb
        obtain ⟨v, w, rfl, hv, hw⟩ := rpL2 hd
        obtain ⟨rfl, rfl, hdd⟩ := key hv
        cases hn : clsNos es with
        | none => rw [hn] at e; cases e
        | some ns =>
          rw [hn] at e
          cases (Option.some.inj e)
          obtain ⟨p, xs, rfl, hs, hr, _⟩ := sqT_of hw
          obtain ⟨rfl, hm⟩ := clsNos_eq hr hn
          exact ⟨hdd, _, _, rfl, .inr ⟨p, ns.map g.cls, rfl, by rw [hK]; exact hs, kitAny_eq A hb.1 hb.2 ns hm⟩, q _ H (fun _ _ z => z) rfl⟩
      · cases e
    · rename_i c' fs
      split at e
      · rename_i hb
        cases (Option.some.inj e)
        obtain ⟨v, w, rfl, hv, hw⟩ := rpL2 hd
        obtain ⟨rfl, rfl, hdd⟩ := key hv
        have hw : w = .ty "ValueError" := hw
        subst hw
        exact ⟨hdd, _, _, rfl, .inl ⟨.type "ValueError", fun u r => r, A.ve c' hb.1 hb.2⟩, q _ H (fun _ _ z => z) rfl⟩
      · cases e
    · cases e
  · -- no such exception: nothing is promised
    refine ⟨fun _ _ _ => False, fun pins s σ H xs us Q I r h => h.elim, fun th mu H ds vs d mu' o hd e Q q => ?_⟩
    have no : ∀ {c' : Nat} {fs : List D} {v : V}, Rp g th (Gz th mu H) (.exn c' fs) v → ¬ (2 ≤ c' ∧ c' ≤ 6) := fun {c' fs v} h z => by
      obtain ⟨a', dd', e1, _⟩ := h
      rw [hx] at e1
      cases (Option.some.inj e1)
      exact hc z
    unfold pureF isED at e
    split at e
    · obtain ⟨v, w, rfl, hv, hw⟩ := rpL2 hd
      split at e
      · rename_i hb; exact no hv ⟨hb.1, hb.2.1⟩
      · cases e
    · obtain ⟨v, w, rfl, hv, hw⟩ := rpL2 hd
      split at e
      · rename_i hb; exact no hv hb
      · cases e
    · obtain ⟨v, w, rfl, hv, hw⟩ := rpL2 hd
      split at e
      · rename_i hb; exact no hv hb
      · cases e
    · cases e
/-- e.f -/
def mXf (f : Str) (ma : ME) : ME := bindM ma fun d => lift fun _ => match d with
  | .exn c fs => if 2 ≤ c ∧ c ≤ 6 then ((fldsT c).zip fs).lookup f else none
  | _ => none
theorem lookup_rp {th : Th} {G : Hp} {f : Str} {d : D} : ∀ {ns : List Str} {fs : List D} {xs : List V}, RpL g th G fs xs → (ns.zip fs).lookup f = some d → f ∈ ns ∧ ∃ v, (ns.zip xs).lookup f = some v ∧ Rp g th G d v
  | [], fs, xs, h, e => by simp at e
  | n :: ns, [], xs, h, e => by simp at e
  | n :: ns, y :: fs, xs, h, e => by
    obtain ⟨v, r, rfl, h1, h2⟩ := h
    rw [List.zip_cons_cons, List.lookup_cons] at e
    rw [List.zip_cons_cons, List.lookup_cons]
    cases hb : (f == n) with
    | true =>
      rw [hb] at e
      cases (Option.some.inj e)
      exact ⟨by simp [beq_iff_eq.mp hb], v, rfl, h1⟩
    | false =>
      rw [hb] at e
      obtain ⟨q1, q2⟩ := lookup_rp h2 e
      exact ⟨List.mem_cons_of_mem _ q1, q2⟩
theorem pm_xf {e : Expr} {ma : ME} {pos : Pos} {f : Str} (A : ExcA X.K g.cls) (hfl : g.flds = fldsT) (hx : g.xc = some (a, c, dd)) (hz : Zc (.ref (g.cls c)) dd oe) (hf : ∃ vs, oe.data = .fields vs)
    (he : PE (X.suite a ((a, oe) :: pn)) e (canE g W ma)) (hb : attributeBase e f X.env (eval e X.env) = eval e X.env := by rfl) : PE (X.suite a ((a, oe) :: pn)) (.Attribute e f pos) (canE g W (mXf f ma)) := by
  by_cases hc : (2 ≤ c ∧ c ≤ 6) ∧ f ∈ fldsT c
  · have T := A.cl c hc.1.1 hc.1.2
    refine PEimp (pe_xf T.xf (T.na f hc.2) hz hf he hb) fun σ H Q h => (can_bind (R := RE g) h).imp fun v H1 ⟨d, rh, mu1, th1, hd, r1, h1⟩ => ?_
    obtain ⟨y, e1, q⟩ := canAt_lift r1 h1
    split at e1
    · rename_i c' fs
      split at e1
      · obtain ⟨a', dd', e2, rfl, e3⟩ := hd
        rw [hx] at e2
        cases (Option.some.inj e2)
        rcases e3 with ⟨rfl, _⟩ | ⟨da, ys, xs, e3, e4, e5, e6⟩
        · simp at e1
        · obtain ⟨_, u, l, hr⟩ := lookup_rp e6 e1
          refine ⟨rfl, rfl, da, ys, u, e3, Gz_sub _ _ e4, by rw [e5, hfl]; exact l, q th1 u H1 (Fw.refl r1.ok) hr⟩
      · cases e1
    · cases e1
  · constructor
    intro pins s σ H Q I h
    refine attr_of hb (thn (he.run pins s σ H (fun _ _ => False) I ?_) fun u s1 ⟨_, _, _, _, z⟩ => z.elim)
    refine (can_bind (R := RE g) h).imp fun v H1 ⟨d, rh, mu1, th1, hd, r1, h1⟩ => ?_
    obtain ⟨y, e1, q⟩ := canAt_lift r1 h1
    split at e1
    · rename_i c' fs
      split at e1
      · rename_i hb2
        obtain ⟨a', dd', e2, rfl, e3⟩ := hd
        rw [hx] at e2
        cases (Option.some.inj e2)
        rcases e3 with ⟨rfl, _⟩ | ⟨da, ys, xs, e3, e4, e5, e6⟩
        · simp at e1
        · exact hc ⟨hb2, (lookup_rp e6 e1).1⟩
      · cases e1
    · cases e1
/-- an own class as a value -/
theorem pm_gcls {X : Cx} {x : Str} {n : Nat} {pos : Pos} (hm : X.mg x = some (.ref (g.cls n))) (hg : Gl X x := by rfl) (hd : (x == ("__debug__" : Str)) = false := by decide) : PE X (.Name x pos) (canE g W (mC (.cls n))) :=
  pm_glob (d := .cls n) (v := .ref (g.cls n)) (fun _ _ => rfl) hm rfl hg hd
end
theorem bt_ve : bootBuiltins "ValueError" = some (.type "ValueError") := by decide +kernel
end Eb
namespace Eb
open PySem L2
/-- an exception's own __init__ stands in the text -/
structure EIAt (K : PySem.W.Frag) (C : Addr) (qual : Str) (st : Stmt) (ps fs : List Str) : Prop where
  ex : ∃ f fd, OexC K C ∧ PySem.W.findIn K (.ref C) "__init__" = some (some (.ref f)) ∧ PySem.W.typeIn K (.ref f) = some (.type "function") ∧ Fun K "__init__" qual st f fd ∧ Binds K fd ps []
  na : ∀ f ∈ fs, PySem.W.findIn K (.ref C) f = some none
/-- .. keeps its promise -/
structure EICal (P : Program) (w : World) (K : PySem.W.Frag) (mg : Str → Option Value) (base : Heap) (cls : Nat → Addr) (c n : Nat) (k : Nat) (ps : List Str) : Prop where
  ex : ∃ f fd, OexC K (cls c) ∧ PySem.W.findIn K (.ref (cls c)) "__init__" = some (some (.ref f)) ∧ PySem.W.typeIn K (.ref f) = some (.type "function") ∧ Binds K fd ps [] ∧ FnOk P w K mg base (L2.CX P w) k f fd ps (spEI (gam P w K cls) c n)
/-- the base of the own exceptions -/
structure BaseI (K : PySem.W.Frag) (C : Addr) : Prop where
  rd : ClX.CRead K C (.type "type")
  fi : PySem.W.findCls K (.ref C) (.type "type") "__init__" = some (.val (.builtin "ValueError.__init__"))
/-- an own exception without own __init__ -/
structure OwnE (K : PySem.W.Frag) (C : Addr) : Prop where
  ei : PySem.W.excIn K C [.type "ValueError", .type "Exception", .type "BaseException", .type "object"] "ValueError.__new__" = true
  kC : PySem.W.keepIn K (.ref C) = true
  exC : PySem.W.subIn K (.ref C) (.type "BaseException") = some true
  tyC : PySem.W.typeIn K (.ref C) = some (.type "type")
end Eb
namespace Eb
open PySem L2
theorem MCal.fz {P : Program} {w : World} {K : PySem.W.Frag} {mg : Str → Option Value} {base : Heap} {cls : Nat → Addr} {c k : Nat} {ps : List Str} {ph : Phi} {x : Str} (h : MCal P w K mg base cls c x k ps ph) : MCal P w K mg base cls c x k ps (mFz ph) := by
  obtain ⟨f, fd, h1, h2, h3⟩ := h.ex
  exact ⟨f, fd, h1, h2, Eb.FnOk.fz h3⟩
end Eb

/-! Eb: dicts whose keys are tuples of ints. -/
namespace Eb
open PySem L2
open Evl (Ex ex_l ex_t)
def keyOf : D → Option (List Int)
  | .tup ds => intsOf ds
  | _ => none
def dicOf (mu : Mu) : D → Option (List (List Int) × List D)
  | .dic ks ds => some (ks, ds)
  | .cel k => match mu[k]? with
    | some (.dic ks ds) => some (ks, ds)
    | _ => none
  | _ => none
def dget : List (List Int) → List D → List Int → Option D
  | k :: ks, d :: ds, x => if k = x then some d else dget ks ds x
  | _, _, _ => none
def dput : List (List Int) → List D → List Int → D → List (List Int) × List D
  | k :: ks, e :: ds, x, d => if k = x then (k :: ks, d :: ds) else (k :: (dput ks ds x d).1, e :: (dput ks ds x d).2)
  | _, _, x, d => ([x], [d])
section
variable {g : Gam} {th : Th} {mu : Mu} {G H : Hp}
theorem key_inj' : ∀ {k x : List Int}, (k.map Sum.inl : List Key) = x.map Sum.inl → k = x
  | [], [], _ => rfl
  | [], _ :: _, h => by cases h
  | _ :: _, [], h => by cases h
  | a :: k, b :: x, h => by
    rw [List.map_cons, List.map_cons] at h
    injection h with h1 h2
    injection h1 with h1
    rw [h1, key_inj' h2]
theorem key_inj {k x : List Int} : (k.map Sum.inl : List Key) = x.map Sum.inl ↔ k = x := ⟨key_inj', fun h => by rw [h]⟩
theorem dput_pos {k x : List Int} {ks : List (List Int)} {e d : D} {ds : List D} (h : k = x) : dput (k :: ks) (e :: ds) x d = (k :: ks, d :: ds) := if_pos h
theorem dput_neg {k x : List Int} {ks : List (List Int)} {e d : D} {ds : List D} (h : ¬ k = x) : dput (k :: ks) (e :: ds) x d = (k :: (dput ks ds x d).1, e :: (dput ks ds x d).2) := if_neg h
theorem tkv_cons {k : List Int} {ks : List (List Int)} {v : V} {xs : List V} : tkv (k :: ks) (v :: xs) = (k.map Sum.inl, v) :: tkv ks xs := rfl
theorem valV_tkv : ∀ {ks : List (List Int)} {ds : List D} {xs : List V} (x : List Int), ks.length = ds.length → RpL g th G ds xs →
    (∀ d, dget ks ds x = some d → ∃ v, valV (tkv ks xs) (x.map Sum.inl) = some v ∧ Rp g th G d v) ∧ (dget ks ds x = none → valV (tkv ks xs) (x.map Sum.inl) = none)
  | [], [], xs, x, _, h => ⟨fun d e => (nomatch e), fun _ => rfl⟩
  | [], _ :: _, xs, x, l, h => by simp at l
  | _ :: _, [], xs, x, l, h => by simp at l
  | k :: ks, d :: ds, xs, x, l, h => by
    obtain ⟨v, r, rfl, h1, h2⟩ := h
    obtain ⟨i1, i2⟩ := valV_tkv (ks := ks) (ds := ds) x (by simpa using l) h2
    rw [tkv_cons]
    by_cases e : k = x
    · subst e
      rw [valV_pos (by rfl)]
      refine ⟨fun d' q => ?_, fun q => ?_⟩
      · have q : some d = some d' := by simpa [dget] using q
        cases q
        exact ⟨v, rfl, h1⟩
      · simp [dget] at q
    · rw [valV_neg (fun z => e (key_inj.mp z))]
      have ed : dget (k :: ks) (d :: ds) x = dget ks ds x := by
        show (if k = x then _ else _) = _
        rw [if_neg e]
      rw [ed]
      exact ⟨i1, i2⟩
theorem putK_none {kvs : List (List Key × V)} {x : List Key} {v : V} (h : ∀ p ∈ kvs, ¬ p.1 = x) : (kvs.map fun kv => if kv.1 = x then (kv.1, v) else kv) = kvs := by
  conv => rhs; rw [← List.map_id kvs]
  apply List.map_congr_left
  intro p hp
  rw [if_neg (h p hp)]
  rfl
theorem putK_cons {k x : List Key} {v0 v : V} {r : List (List Key × V)} (h : ∀ p ∈ r, ¬ p.1 = k) : putK ((k, v0) :: r) x v = if k = x then (k, v) :: r else (k, v0) :: putK r x v := by
  by_cases e : k = x
  · subst e
    rw [if_pos rfl]
    unfold putK
    rw [if_pos (by simp), List.map_cons, if_pos rfl, putK_none h]
  · rw [if_neg e]
    unfold putK
    by_cases a : (r.any fun kv => decide (kv.1 = x)) = true
    · rw [if_pos (by rw [List.any_cons, a, Bool.or_true]), if_pos a, List.map_cons, if_neg e]
    · rw [if_neg (by rw [List.any_cons, decide_eq_false e, Bool.false_or]; exact a), if_neg a]
      rfl
theorem tkv_mem {ks : List (List Int)} {xs : List V} {p : List Key × V} (h : p ∈ tkv ks xs) : ∃ k ∈ ks, p.1 = k.map Sum.inl := by
  obtain ⟨a, b⟩ := p
  have := (List.of_mem_zip h).1
  obtain ⟨k, hk, e⟩ := List.mem_map.mp this
  exact ⟨k, hk, e.symm⟩
theorem putK_tkv : ∀ {ks : List (List Int)} {ds : List D} {xs : List V} {x : List Int} {d : D} {v : V}, ks.length = ds.length → ks.Nodup → RpL g th G ds xs → Rp g th G d v →
    ∃ ws, putK (tkv ks xs) (x.map Sum.inl) v = tkv (dput ks ds x d).1 ws ∧ RpL g th G (dput ks ds x d).2 ws
  | [], [], xs, x, d, v, _, _, h, hv => ⟨[v], rfl, v, [], rfl, hv, rfl⟩
  | [], _ :: _, xs, x, d, v, l, _, h, hv => by simp at l
  | _ :: _, [], xs, x, d, v, l, _, h, hv => by simp at l
  | k :: ks, e :: ds, xs, x, d, v, l, nd, h, hv => by
    obtain ⟨u, r, rfl, h1, h2⟩ := h
    rw [List.nodup_cons] at nd
    rw [tkv_cons, putK_cons (fun p hp z => by
      obtain ⟨k', hk, q⟩ := tkv_mem hp
      rw [q] at z
      exact nd.1 (by rw [← key_inj.mp z]; exact hk))]
    by_cases ek : k = x
    · subst ek
      rw [if_pos rfl]
      refine ⟨v :: r, ?_, ?_⟩
      · rw [dput_pos rfl]; rfl
      · rw [dput_pos rfl]
        exact ⟨v, r, rfl, hv, h2⟩
    · rw [if_neg (fun z => ek (key_inj.mp z))]
      obtain ⟨ws, q1, q2⟩ := putK_tkv (x := x) (by simpa using l) nd.2 h2 hv
      refine ⟨u :: ws, ?_, ?_⟩
      · rw [q1]
        rw [dput_neg ek]; rfl
      · rw [dput_neg ek]
        exact ⟨u, ws, rfl, h1, q2⟩
theorem dput_len : ∀ {ks : List (List Int)} {ds : List D} {x : List Int} {d : D}, ks.length = ds.length → (dput ks ds x d).1.length = (dput ks ds x d).2.length ∧ (dput ks ds x d).1.length ≤ ks.length + 1
  | [], [], x, d, _ => ⟨rfl, Nat.le_refl _⟩
  | [], _ :: _, x, d, l => by simp at l
  | _ :: _, [], x, d, l => by simp at l
  | k :: ks, e :: ds, x, d, l => by
    have ih := dput_len (ks := ks) (ds := ds) (x := x) (d := d) (by simpa using l)
    by_cases ek : k = x
    · rw [dput_pos ek]
      simp at l
      simp [l]
    · rw [dput_neg ek]
      simp only [List.length_cons]
      omega
theorem dput_mem : ∀ {ks : List (List Int)} {ds : List D} {x : List Int} {d : D} (k : List Int), ks.length = ds.length → (k ∈ (dput ks ds x d).1 ↔ k ∈ ks ∨ k = x)
  | [], [], x, d, k, _ => by simp [dput]
  | [], _ :: _, x, d, _, l => by simp at l
  | _ :: _, [], x, d, _, l => by simp at l
  | k' :: ks, e :: ds, x, d, k, l => by
    have ih := dput_mem (ks := ks) (ds := ds) (x := x) (d := d) k (by simpa using l)
    by_cases ek : k' = x
    · subst ek
      rw [dput_pos rfl, List.mem_cons]
      constructor
      · exact .inl
      · rintro (h | h)
        · exact h
        · exact .inl h
    · rw [dput_neg ek, List.mem_cons, List.mem_cons, ih]
      constructor
      · rintro (h | h | h)
        · exact .inl (.inl h)
        · exact .inl (.inr h)
        · exact .inr h
      · rintro ((h | h) | h)
        · exact .inl h
        · exact .inr (.inl h)
        · exact .inr (.inr h)
theorem dput_nd : ∀ {ks : List (List Int)} {ds : List D} {x : List Int} {d : D}, ks.length = ds.length → ks.Nodup → (dput ks ds x d).1.Nodup
  | [], [], x, d, _, _ => by simp [dput]
  | [], _ :: _, x, d, l, _ => by simp at l
  | _ :: _, [], x, d, l, _ => by simp at l
  | k' :: ks, e :: ds, x, d, l, nd => by
    rw [List.nodup_cons] at nd
    have l' : ks.length = ds.length := by simpa using l
    have ih := dput_nd (ks := ks) (ds := ds) (x := x) (d := d) l' nd.2
    by_cases ek : k' = x
    · rw [dput_pos ek]
      exact List.nodup_cons.mpr nd
    · rw [dput_neg ek]
      refine List.nodup_cons.mpr ⟨fun m => ?_, ih⟩
      rcases (dput_mem k' l').mp m with m | m
      · exact nd.1 m
      · exact ek m
theorem dic_at {d : D} {v : V} {ks : List (List Int)} {ds : List D} (o : Ok g th mu H) (h : Rp g th (Gz th mu H) d v) (e : dicOf mu d = some (ks, ds)) :
    ∃ a xs, v = .ref a ∧ Rd H a (.dT (tkv ks xs)) ∧ ks.length = ds.length ∧ ks.length ≤ 100000 ∧ ks.Nodup ∧ RpL g th (Gz th mu H) ds xs := by
  unfold dicOf at e
  split at e
  · cases (Option.some.inj e)
    obtain ⟨a, u, xs, e1, e2, e3, e4, e5, e6⟩ := h
    exact ⟨a, xs, e1, .inr ⟨u, Gz_sub _ _ e2⟩, e3, e4, e5, e6⟩
  · split at e
    · rename_i ks' ds' hk
      cases (Option.some.inj e)
      obtain ⟨a, e1, e2⟩ := h
      obtain ⟨xs, q1, q2, q3, q4, q5⟩ := o.cel _ a _ e2 hk
      exact ⟨a, xs, e1, .inl q1, q2, q3, q4, q5⟩
    · cases e
  · cases e
theorem kV_map : ∀ x : List Int, ((x.map Sum.inl : List Key).map kV) = x.map V.int
  | [] => rfl
  | a :: x => by
    rw [List.map_cons, List.map_cons, List.map_cons, kV_map x]
    rfl
theorem key_at {d : D} {v : V} {x : List Int} (h : Rp g th (Gz th mu H) d v) (e : keyOf d = some x) : ∃ b, v = .ref b ∧ H b = some (.tup ((x.map Sum.inl : List Key).map kV)) := by
  unfold keyOf at e
  split at e
  · rename_i ds
    obtain ⟨a, xs, e1, e2, e3⟩ := h
    have ex := intsOf_eq e3 e
    rcases e2 with e2 | ⟨l1, e4, _⟩
    · refine ⟨a, e1, ?_⟩
      rw [kV_map, ← ex]
      exact Gz_sub _ _ e2
    · rw [e4] at ex
      cases x with
      | nil => cases ex
      | cons i x => rw [List.map_cons] at ex; injection ex with h1 h2; cases h1
  · cases e
end
/-! ### reading -/
def dgetD (mu : Mu) (o i : D) : Option D := match dicOf mu o, keyOf i with
  | some (ks, ds), some x => dget ks ds x
  | _, _ => none
def dhasB (mu : Mu) (i o : D) : Option Bool := match dicOf mu o, keyOf i with
  | some (ks, ds), some x => some (dget ks ds x).isSome
  | _, _ => none
def dinD (mu : Mu) (i o : D) : Option D := (dhasB mu i o).map .bl
def dninD (mu : Mu) (i o : D) : Option D := (dhasB mu i o).map fun b => .bl (!b)
section
variable {X : Cx} {g : Gam} {W : WX} {o i e a b : Expr} {ma mb mi mo mv : ME} {pos pos' apos cpos : Pos} {th : Th} {mu : Mu} {H : Hp}
theorem dget_at {do' di : D} {v y : V} {r : D} (k : Ok g th mu H) (ho : Rp g th (Gz th mu H) do' v) (hi : Rp g th (Gz th mu H) di y) (e : dgetD mu do' di = some r) : ∃ a w, v = .ref a ∧ DGet H a y (some w) ∧ Rp g th (Gz th mu H) r w := by
  unfold dgetD at e
  split at e
  · rename_i ks ds x hd hk
    obtain ⟨a, xs, rfl, q1, q2, q3, q4, q5⟩ := dic_at k ho hd
    obtain ⟨b, rfl, q6⟩ := key_at hi hk
    obtain ⟨w, e1, e2⟩ := (valV_tkv x q2 q5).1 r e
    exact ⟨a, w, rfl, .inr ⟨_, _, b, q1, rfl, q6, e1.symm⟩, e2⟩
  · cases e
theorem dhas_at {do' di : D} {v y : V} {r : Bool} (k : Ok g th mu H) (ho : Rp g th (Gz th mu H) do' v) (hi : Rp g th (Gz th mu H) di y) (e : dhasB mu di do' = some r) : ∃ a w, v = .ref a ∧ DGet H a y w ∧ w.isSome = r := by
  unfold dhasB at e
  split at e
  · rename_i ks ds x hd hk
    cases (Option.some.inj e)
    obtain ⟨a, xs, rfl, q1, q2, q3, q4, q5⟩ := dic_at k ho hd
    obtain ⟨b, rfl, q6⟩ := key_at hi hk
    refine ⟨a, valV (tkv ks xs) (x.map Sum.inl), rfl, .inr ⟨_, _, b, q1, rfl, q6, rfl⟩, ?_⟩
    cases hg : dget ks ds x with
    | none => rw [(valV_tkv x q2 q5).2 hg]; rfl
    | some d => obtain ⟨w, e1, _⟩ := (valV_tkv x q2 q5).1 d hg; rw [e1]; rfl
  · cases e
theorem pm_dget (hu : X.A.units + 1 < cLine) (ho : PE X o (canE g W ma)) (hi : PE X i (canE g W mb)) (hs : NoSl i) : PE X (.Subscript o i pos) (canE g W (mOp dgetD ma mb)) :=
  PEimp (pe_dget hu ho hi hs) fun σ H Q h => (can_bind (R := RE g) h).imp fun x H1 ⟨d, rh, mu1, th1, hx, r1, h1⟩ => ⟨rh, mu1, th1, r1, (canAt_bind (R := RE g) r1 h1).imp fun y H2 ⟨d2, mu2, th2, f2, hy, r2, h2⟩ => by
    obtain ⟨d', e, q⟩ := canAt_lift r2 h2
    obtain ⟨a, w, e1, e2, e3⟩ := dget_at r2.ok (hx.mono f2.pf f2.ex) hy e
    exact ⟨a, w, e1, e2, q th2 w H2 (Fw.refl r2.ok) e3⟩⟩
theorem PCimp {op : CmpOp} {t t' : TE} (h : PC X op a b t) (q : ∀ σ H Q, t' σ H Q → t σ H Q) : PC X op a b t' := ⟨fun pins s σ H Q I hw => h.run pins s σ H Q I (q _ _ _ hw)⟩
theorem pc_dinM (hu : X.A.units + 1 < cLine) (hi : PE X i (canE g W mi)) (ho : PE X o (canE g W mo)) : PC X .In i o (canE g W (mOp dinD mi mo)) :=
  PCimp (pc_din hu hi ho) fun σ H Q h => (can_bind (R := RE g) h).imp fun x H1 ⟨d, rh, mu1, th1, hx, r1, h1⟩ => ⟨rh, mu1, th1, r1, (canAt_bind (R := RE g) r1 h1).imp fun y H2 ⟨d2, mu2, th2, f2, hy, r2, h2⟩ => by
    obtain ⟨d', e, q⟩ := canAt_lift r2 h2
    have e : (dhasB mu2 d d2).map D.bl = some d' := e
    cases hb : dhasB mu2 d d2 with
    | none => rw [hb] at e; cases e
    | some r =>
      rw [hb] at e
      cases (Option.some.inj e)
      obtain ⟨a, w, e1, e2, rfl⟩ := dhas_at r2.ok hy (hx.mono f2.pf f2.ex) hb
      exact ⟨a, w, e1, e2, q th2 _ H2 (Fw.refl r2.ok) rfl⟩⟩
theorem pc_dninM (hu : X.A.units + 1 < cLine) (hi : PE X i (canE g W mi)) (ho : PE X o (canE g W mo)) : PC X .NotIn i o (canE g W (mOp dninD mi mo)) :=
  PCimp (pc_dnotin hu hi ho) fun σ H Q h => (can_bind (R := RE g) h).imp fun x H1 ⟨d, rh, mu1, th1, hx, r1, h1⟩ => ⟨rh, mu1, th1, r1, (canAt_bind (R := RE g) r1 h1).imp fun y H2 ⟨d2, mu2, th2, f2, hy, r2, h2⟩ => by
    obtain ⟨d', e, q⟩ := canAt_lift r2 h2
    have e : (dhasB mu2 d d2).map (fun b => D.bl (!b)) = some d' := e
    cases hb : dhasB mu2 d d2 with
    | none => rw [hb] at e; cases e
    | some r =>
      rw [hb] at e
      cases (Option.some.inj e)
      obtain ⟨a, w, e1, e2, rfl⟩ := dhas_at r2.ok hy (hx.mono f2.pf f2.ex) hb
      exact ⟨a, w, e1, e2, q th2 _ H2 (Fw.refl r2.ok) rfl⟩⟩
/-! ### writing -/
def stD (o i y : D) (mu : Mu) : Option Mu := match o, keyOf i with
  | .cel k, some x => match mu[k]? with
    | some (.dic ks ds) => if ks.length < 100000 then some (mu.set k (.dic (dput ks ds x y).1 (dput ks ds x y).2)) else none
    | _ => none
  | _, _ => none
theorem stD_cases {o i y : D} {mu mu' : Mu} (h : stD o i y mu = some mu') : ∃ k x ks ds, o = .cel k ∧ keyOf i = some x ∧ mu[k]? = some (.dic ks ds) ∧ ks.length < 100000 ∧ mu' = mu.set k (.dic (dput ks ds x y).1 (dput ks ds x y).2) := by
  unfold stD at h
  split at h
  · rename_i k x hk
    split at h
    · rename_i ks ds hc
      split at h
      · rename_i hl
        exact ⟨k, x, ks, ds, rfl, hk, hc, hl, (Option.some.inj h).symm⟩
      · cases h
    · cases h
  · cases h
def sPutD (mo mi mv : ME) : MS := bindS mv fun y => bindS mo fun o => bindS mi fun i rh mu => (stD o i y mu).map fun mu' => (.nx rh, mu')
theorem pm_dput (hu : X.A.units + 1 < cLine) (ho : PE X o (canE g W mo)) (hi : PE X i (canE g W mi)) (hv : PE X e (canE g W mv)) (hs : swapsWith e (some (.Subscript o i pos')) pos.line X.env = pure false := by rfl) :
    PS X (.Assign [.Subscript o i pos'] e pos) (canS g W (sPutD mo mi mv)) :=
  PSimp (ps_dput hu ho hi hv hs) fun Dn σ H h => (canS_bind (R := RE g) h).imp fun y H1 ⟨dy, rh, mu1, th1, hy, r1, h1⟩ => ⟨rh, mu1, th1, r1, (canSAt_bind (R := RE g) r1 h1).imp fun x H2 ⟨d, mu2, th2, f2, hd, r2, h2⟩ =>
    ⟨rh, mu2, th2, r2, (canSAt_bind (R := RE g) r2 h2).imp fun z H3 ⟨di, mu3, th3, f3, hi, r3, ot, mu', e, q⟩ => by
      have e : (stD d di dy mu3).map (fun mu' => (Out.nx rh, mu')) = some (ot, mu') := e
      have hy3 := hy.mono (f2.trans f3).pf (f2.trans f3).ex
      have hd3 := hd.mono f3.pf f3.ex
      cases hst : stD d di dy mu3 with
      | none => rw [hst] at e; cases e
      | some mu4 =>
        rw [hst] at e
        cases (Option.some.inj e)
        obtain ⟨k, x, ks, ds, rfl, hk, hc, hl, rfl⟩ := stD_cases hst
        obtain ⟨a, rfl, ha⟩ := hd3
        obtain ⟨xs, q1, q2, q3, q4, q5⟩ := r3.ok.cel _ a _ ha hc
        obtain ⟨b, rfl, q6⟩ := key_at hi hk
        obtain ⟨ws, p1, p2⟩ := putK_tkv (x := x) q2 q4 q5 hy3
        obtain ⟨l1, l2⟩ := dput_len (x := x) (d := dy) q2
        have zl : (tkv ks xs).length < sizeLine := by
          unfold tkv
          rw [List.length_zip, List.length_map]
          rw [sizeLine_eq]
          omega
        refine ⟨a, upd H3 a (.dT (tkv (dput ks ds x dy).1 ws)), rfl, .inr ⟨_, _, b, q1, rfl, q6, zl, by rw [p1]⟩, ?_⟩
        obtain ⟨o3, e3, hh⟩ := r3.ok.write (u := .dT (tkv (dput ks ds x dy).1 ws)) (c' := .dic (dput ks ds x dy).1 (dput ks ds x dy).2) ha hc rfl rfl ⟨ws, upd_same, l1, by omega, dput_nd q2 q4, p2⟩
        have f4 : Fw g th3 mu3 H3 th3 (mu3.set k (.dic (dput ks ds x dy).1 (dput ks ds x dy).2)) (upd H3 a (.dT (tkv (dput ks ds x dy).1 ws))) := ⟨Pfx.refl, o3, by rw [e3]; exact fun _ _ z => z, hh⟩
        exact q th3 σ _ f4 (r3.fw f4)⟩⟩
/-! ### displays -/
def mDicN : ME := fun _ mu => some (.ok (.cel mu.length), mu ++ [.dic [] []])
theorem pm_dicN : PE X (.Dict [] [] pos) (canE g W mDicN) := PEimp pe_dnewT fun σ H Q ⟨rh, mu, th, r, s, mu', e, q⟩ => by
  cases (Option.some.inj e)
  intro p hp
  obtain ⟨o2, eg⟩ := r.ok.push (u := .dT []) (c := .dic [] []) hp rfl fun th' G' pf ex => ⟨[], upd_same, rfl, by simp, List.nodup_nil, rfl⟩
  refine q (th.add p) (.ref p) _ ⟨Pfx.add, o2, by rw [eg]; exact fun _ _ z => z, fun a m => ?_⟩ ⟨p, rfl, ?_⟩
  · obtain ⟨_, u, hu, _⟩ := r.ok.hid a m
    exact upd_ne (ne_of_none hu hp)
  · show (th.ids ++ [p])[mu.length]? = some p
    rw [← r.ok.len]; simp
/-- {k: v}, the new dict locked for good -/
def tD1 (tk tv : TE) : TE := fun σ H Q => ∀ p, H p = none → tk σ (upd H p (.dT [])) fun x H1 => tv σ H1 fun y H2 => H2 p = some (.dT []) ∧ ∃ b ks, x = .ref b ∧ H2 b = some (.tup ((ks : List Key).map kV)) ∧ ∀ o, Q (.ref p) (upd H2 p (.frz o (.dT [(ks, y)])))
theorem pe_d1 {k v : Expr} {tk tv : TE} (hu : X.A.units + 1 < cLine) (hk : PE X k tk) (hv : PE X v tv) : PE X (.Dict [some k] [v] pos) (tD1 tk tv) := by
  refine ⟨fun pins s σ H Q I h => ?_⟩
  have hn := I.hok.fresh (Nat.le_refl s.heap.objs.size)
  have I1 := I.laid (a := s.heap.objs.size) (o := .dT []) (h' := s.heap.push { cls := .type "dict", data := .dict #[] }) (t' := s.toks) (fun _ _ q => Heap.get?_push_of_some _ q) (Nat.le_refl _) (dt_empty s.heap I.big)
  have hn1 := pairTrees_length [some k] [v] X.env pos rfl rfl
  rw [arm_eval_Dict, show (evalEachOpt [some k] X.env).zip ((evalEach [v] X.env).map fun v => do let x ← v; standAt pos; pure x) = (pairTrees [some k] [v] X.env pos).map (fun p => (some p.1, p.2)) from zip_pairTrees [some k] [v] X.env pos rfl rfl,
    dictDisplay_pairs _ (by intro z; rw [z] at hn1; cases hn1) (by rw [hn1]; show 1 < _; decide)]
  refine wpAny_bind (wpAny_standAt (wpAny_bind (PySem.wpAny_subDictH (knd := tupleKind (mixKind X.prog X.w)) (Q := fun d s' => wpAny (model X.prog X.w) X.A (pure (Value.ref d)) (EP X pins σ Q) X.xe s') (by show X.A.units < cLine; omega) (by rw [hn1]; show 1 ≤ _; decide) ?_)))
  refine pairTrees_cons_walk (thn (hk.run pins _ σ _ _ I1 (h _ hn)) fun u s1 ⟨x, H1, I2, rx, q1⟩ => thn (hv.run pins s1 σ H1 _ I2 q1) fun w2 s2 ⟨y, H2, I3, ry, hp, b, ks, ex, hb, q2⟩ => pairTrees_nil_walk ?_)
  subst ex
  obtain rfl : u = Value.ref b := rx
  obtain ⟨z, hd, xs, rel, dd⟩ := dt_of I3.hok hp
  cases rel
  refine ⟨[(ks, b, w2)], ⟨rfl, rfl, key_of I3.hok hb, True.intro⟩, dd, fun h' tk dd' hs => wpAny_pure ?_⟩
  have e1 : storedAllH [] [(ks, b, w2)] = [(ks, b, w2)] := by simp [storedAllH, storedH, atKey]
  rw [e1] at dd'
  obtain ⟨od, es, ep, h1, h2, h3, h4, _, h5⟩ := dd'
  refine ⟨.ref s.heap.objs.size, _, ?_, rfl, q2 od⟩
  refine d_write (t' := tk) I3 (by rw [hp]; exact True.intro) hs ⟨od, h1⟩ ⟨h1, by rw [sizeLine_eq]; show 1 ≤ 16777216; decide, hd, [(ks, b, w2)], ?_, od, es, ep, h1, h2, h3, h4, h5⟩
  refine .cons ⟨rfl, ?_, ry⟩ .nil
  rw [upd_ne (ne_of hb hp (fun z => nomatch z))]
  exact hb
end
end Eb

/-! Eb: the keys of a dict sorted; dicts that are changed no more. -/
namespace Eb
open PySem L2 PyProof.Rows
open Evl (Ex ex_l ex_t)
section
variable {prog : Program} {w : World} {A : Around} {E : Value → Shared → Prop} {s : Shared}
theorem kat_ints {c : Bool} {p q : Int} {t u : Tok} {Q : Bool → Shared → Prop} (h : Q (decide (p < q)) s) : wpAny (model prog w) A (oneLt' c (.int p t) (.int q u)) Q E s := by
  cases c with
  | true => exact oneLt_int h
  | false => exact PySem.W.kat_one _ _ (PyProof.Rows.lt_int (Q := PySem.W.BoolBack Q) h)
theorem katlex_ints : ∀ {vs us : List Value} {ns ms : List Int} {i : Nat} {fin : Bool}, IntsAre vs ns → IntsAre us ms → fin = decide (ns.length < ms.length) →
    PySem.W.KatLex prog w A true fin (fun r s' => s' = s ∧ r = HT.lexLt ns ms) (vs.zip us) i s
  | _, _, _, _, i, fin, .nil, .nil, e => PySem.W.kat_nil ⟨rfl, e⟩
  | _, _, _, _, i, fin, .nil, .cons m t h, e => PySem.W.kat_nil ⟨rfl, e.trans (by simp [HT.lexLt])⟩
  | _, _, _, _, i, fin, .cons n t h, .nil, e => PySem.W.kat_nil ⟨rfl, e.trans (by simp [HT.lexLt])⟩
  | _, _, _, _, i, fin, .cons (vs := vs) (ns := ns) n t h, .cons (vs := us) (ns := ms) m u h', e => by
    show PySem.W.KatLex prog w A true fin _ ((.int n t, .int m u) :: vs.zip us) i s
    refine PySem.W.kat_cons (SeqAt.EqAt.int_int n t m u prog w _ _ ?_)
    refine PySem.W.kat_go (fun e1 => ?_) (fun e1 => ?_)
    · have ex : n = m := by simpa using e1
      refine PySem.W.kat_yes ?_
      have ih := katlex_ints (i := i + 1) (fin := fin) h h' (by rw [e]; simp)
      rw [HT.lexLt_cons, if_pos ex]
      exact ih
    · have ex : ¬ n = m := by simpa using e1
      refine PySem.W.kat_no (kat_ints ?_)
      rw [HT.lexLt_cons, if_neg ex]
      exact ⟨rfl, rfl⟩
theorem ints_len : ∀ {vs : List Value} {ns : List Int}, IntsAre vs ns → vs.length = ns.length
  | _, _, .nil => rfl
  | _, _, .cons n t h => by rw [List.length_cons, List.length_cons, ints_len h]
/-- the keys: tuples of ints, none of them empty -/
theorem katTups_of : ∀ {l : List (Addr × List Int)} {h : Heap}, (∀ p ∈ l, p.2 ≠ [] ∧ ∃ t, IsTup h p.1 t ∧ IntsAre t.toList p.2) → ∃ fs, PySem.W.KatTups h (l.map fun p => Value.ref p.1) fs ∧ fs.length = l.length ∧ ∀ f ∈ fs, ∃ (x : Int) (t : Tok), f = .int x t
  | [], h, _ => ⟨[], PySem.W.KatTups.nil, rfl, fun f m => nomatch m⟩
  | p :: l, h, hp => by
    obtain ⟨fs, h1, h2, h3⟩ := katTups_of (l := l) (h := h) fun q hq => hp q (List.mem_cons_of_mem _ hq)
    obtain ⟨ne, t, ⟨o, ho, hc, n, hd⟩, hi⟩ := hp p List.mem_cons_self
    cases hn : p.2 with
    | nil => exact absurd hn ne
    | cons x r =>
      rw [hn] at hi
      cases ht : t.toList with
      | nil => rw [ht] at hi; cases hi
      | cons v vs =>
        rw [ht] at hi
        cases hi with
        | cons _ u _ =>
          refine ⟨.int x u :: fs, PySem.W.KatTups.cons ho hc hd (by rw [← Array.getElem?_toList, ht]; rfl) h1, by rw [List.length_cons, List.length_cons, h2], fun f hf => ?_⟩
          rcases List.mem_cons.mp hf with rfl | hf
          · exact ⟨x, u, rfl⟩
          · exact h3 f hf
theorem sortable_tups {a : Addr} {l : List (Addr × List Int)} {k : Value → List Int} (h0 : 0 < l.length) (hk : ∀ p ∈ l, k (.ref p.1) = p.2) (hp : ∀ p ∈ l, p.2 ≠ [] ∧ ∃ t, IsTup s.heap p.1 t ∧ IntsAre t.toList p.2) (ha : ∀ o, s.heap.get? a = some o → o.cls ≠ .type "tuple") :
    SrtO.SortableO prog w A s a (l.map fun p => Value.ref p.1) fun v u => HT.lexLt (k v) (k u) := by
  intro h' keep
  have hp' : ∀ p ∈ l, p.2 ≠ [] ∧ ∃ t, IsTup h' p.1 t ∧ IntsAre t.toList p.2 := fun p hm => by
    obtain ⟨ne, t, ⟨o, ho, hc, r⟩, hi⟩ := hp p hm
    exact ⟨ne, t, ⟨o, keep p.1 o (fun z => by rw [z] at ho; exact ha o ho hc) ho, hc, r⟩, hi⟩
  obtain ⟨fs, h1, h2, h3⟩ := katTups_of hp'
  refine ⟨tuples' true, fun Q E hq => ?_, ?_⟩
  · refine PySem.W.kat_kind (T := .type "int") h1 (by omega) (fun f hm => ?_) (by rfl) ?_
    · obtain ⟨x, t, rfl⟩ := h3 f hm
      exact PySem.W.Looks.now
    · have e : (Value.type "int" != Value.type "tuple") = true := by first | decide +kernel | rfl | decide
      rw [e]
      exact hq
  · intro p q hm hm'
    obtain ⟨x, hx, e1⟩ := List.mem_map.mp hm
    obtain ⟨y, hy, e2⟩ := List.mem_map.mp hm'
    obtain ⟨_, t, ⟨o, ho, hc, n, hd⟩, hi⟩ := hp' x hx
    obtain ⟨_, u, ⟨o', ho', hc', n', hd'⟩, hi'⟩ := hp' y hy
    show wpAny (model prog w) A (keyLt' (tuples' true) p.1 q.1) (fun r s' => s' = { s with heap := h' } ∧ r = HT.lexLt (k p.1) (k q.1)) (fun _ _ => False) _
    rw [← e1, ← e2, hk x hx, hk y hy]
    refine PySem.W.kat_lt (s := { s with heap := h' }) ho hd ho' hd' ?_
    refine katlex_ints hi hi' ?_
    rw [← Array.length_toList, ← Array.length_toList, ints_len hi, ints_len hi']
/-- the collected list stands on new ground -/
theorem collect_grows {R : List Value → Shared → Prop} {r : Addr} {T : String} {d : Addr} {n : Nat} {P : Nat → Value → Prop} {OK : Heap → Prop} (K : PySem.W.KdlSrc prog w T r d n P OK) (hh : A.handled = none) (hok : OK s.heap) (hn : n ≤ sizeLine)
    (h : ∀ (h' : Heap) (tk : Nat) (acc : Array Value), (∀ b o, s.heap.get? b = some o → h'.get? b = some o) → s.heap.objs.size ≤ h'.objs.size → ItemsOf P acc n → R acc.toList { s with heap := h', toks := tk }) :
    wpAny (model prog w) A (collect (.ref r)) R E s := by
  obtain ⟨lt1, lt2⟩ := K.there _ hok
  unfold collect
  refine wpAny_bind (wpAny_runValue (codeAny_builtin entry_proto_collect' ?_))
  rw [Around.under_plainId PySem.F.plain_proto_collect _]
  show wpAny _ A.in1 (newList [] >>= fun l => again (.builtin "list.__iadd__" ⟨[l, .ref r], []⟩)) _ _ s
  refine wpAny_bind (wpAny_newObj_type (wpAny_pure ⟨plainId_quiet PySem.F.plain_list_iadd _, codeAny_builtin entry_list_iadd' ?_⟩))
  rw [Around.under_plainId PySem.F.plain_list_iadd _]
  show wpAny _ A.in1 (Builtin.List.listExtendWith (.ref s.heap.objs.size) (.ref r) (.ref s.heap.objs.size)) _ _ _
  have key := PySem.W.kdl_extend (A := A) (s := { s with heap := s.heap.push { cls := .type "list", data := .seq ([] : List Value).toArray } })
    (R := fun (q : Result) (s' : Shared) => ∃ (h' : Heap) (tk : Nat) (acc : Array Value) (c : Nat), q = .ok (.ret (.ref s.heap.objs.size)) ∧ s' = { s with heap := h', toks := tk } ∧
      (∀ b o, s.heap.get? b = some o → h'.get? b = some o) ∧ h'.get? s.heap.objs.size = some { cls := .type "list", dict := none, data := .seq acc c, slots := #[] } ∧ ItemsOf P acc n)
    K hh (K.keep _ _ hok fun b _ o e => Heap.get?_push_of_some _ e) s.heap.objs.size (Nat.ne_of_gt lt1) (Nat.ne_of_gt lt2) (.ref s.heap.objs.size) 0 (Heap.get?_push_size _ rfl)
    (fun h' tk acc c hk hS' hacc => ⟨h', tk, acc, c, rfl, rfl, fun b o e => hk b o (Nat.ne_of_lt (Heap.lt_size e)) (Heap.get?_push_of_some _ e), hS', hacc⟩) hn
  refine wpAny_mono key (fun fin s' x => ?_) fun e s' x => ?_
  · cases fin with
    | done f =>
      obtain ⟨h', tk, acc, c, e, rfl, hk, hS', hacc⟩ := x
      cases e
      exact wpAny_bind (wpAny_load hS' (wpAny_pure (h h' tk acc hk (Nat.le_of_lt (Heap.lt_size hS')) hacc)))
    | again c₁ =>
      refine ⟨x.1, codeAny_mono x.2 fun q s₂ y => ?_⟩
      obtain ⟨h', tk, acc, c, rfl, rfl, hk, hS', hacc⟩ := y
      exact wpAny_bind (wpAny_load hS' (wpAny_pure (h h' tk acc hk (Nat.le_of_lt (Heap.lt_size hS')) hacc)))
  · obtain ⟨_, _, _, _, e', _⟩ := x
    cases e'
theorem sorted_collected {r : Addr} {T : String} {d : Addr} {n : Nat} {P : Nat → Value → Prop} {OK : Heap → Prop} {l : List (Addr × List Int)} {k : Value → List Int} {Q : Value → Shared → Prop} (K : PySem.W.KdlSrc prog w T r d n P OK) (hh : A.handled = none) (hok : OK s.heap) (hn : n ≤ sizeLine)
    (hl : ∀ acc : Array Value, ItemsOf P acc n → acc.toList = l.map fun p => Value.ref p.1) (hz : l.length ≤ sizeLine) (hk : ∀ p ∈ l, k (.ref p.1) = p.2) (hp : ∀ p ∈ l, p.2 ≠ [] ∧ ∃ t, IsTup s.heap p.1 t ∧ IntsAre t.toList p.2)
    (h : ∀ (h' : Heap) (tk : Nat) (D : Addr) (out : List Value), SrtO.Srtd (fun v u => HT.lexLt (k v) (k u)) out → out.Perm (l.map fun p => Value.ref p.1) → (∀ b o, s.heap.get? b = some o → h'.get? b = some o) → s.heap.objs.size ≤ D → (∃ n, h'.get? D = some (seqObj "list" out.toArray n)) → Q (.ref D) { s with heap := h', toks := tk }) :
    wpAny (model prog w) A (call (.builtin "sorted") [.ref r]) Q E s := by
  refine Calls.call_function_entry kind_sorted plain_sorted entry_sorted (args_sorted1 _) ?_
  unfold Builtin.«sorted»
  refine wpAny_bind (m := checkCount "sorted" 1 1 _) (wpAny_pure ?_)
  refine wpAny_bind (collect_grows (A := A.in1) K hh hok hn fun h' tk acc hkp hs hacc => ?_)
  rw [hl acc hacc]
  have hz' : (l.map fun p => Value.ref p.1).length ≤ sizeLine := by rw [List.length_map]; exact hz
  refine wpAny_bind (wpAny_newList ?_ hz')
  have hoL : (h'.push (seqObj "list" (l.map fun p => Value.ref p.1).toArray 0)).get? h'.objs.size = some (seqObj "list" (l.map fun p => Value.ref p.1).toArray 0) := Heap.get?_push_size _ rfl
  have keep : ∀ b o, s.heap.get? b = some o → b ≠ h'.objs.size ∧ (h'.push (seqObj "list" (l.map fun p => Value.ref p.1).toArray 0)).get? b = some o := fun b o q => ⟨Nat.ne_of_lt (Heap.lt_size (hkp b o q)), Heap.get?_push_of_some _ (hkp b o q)⟩
  show wpAny _ _ _ _ _ { s with heap := h'.push (seqObj "list" (l.map fun p => Value.ref p.1).toArray 0), toks := tk }
  refine wpAny_bind (wpAny_holding (wpAny_call_entry slot_list_sort ⟨_, hoL, rfl⟩ entry_list_sort (SrtO.list_sort_ord (swo_tups k) hoL hz' (fun h2 => ?_) fun out hs1 hb => ⟨_, rfl, ?_⟩) (args_list_sort _)))
  · refine sortable_tups (s := { s with heap := h'.push (seqObj "list" (l.map fun p => Value.ref p.1).toArray 0), toks := tk }) (by rw [List.length_map] at h2; omega) hk (fun p hm => ?_) fun o e => ?_
    · obtain ⟨ne, t, ⟨o, ho, hc, r⟩, hi⟩ := hp p hm
      exact ⟨ne, t, ⟨o, (keep p.1 o ho).2, hc, r⟩, hi⟩
    · have e' : some o = some _ := e.symm.trans hoL
      cases e'
      intro c
      exact absurd (Value.type.inj c) (by decide)
  · refine wpAny_pure ⟨_, rfl, h _ tk _ out hs1 hb.perm (fun b o q => ?_) hs (sortedHeap_at hoL)⟩
    obtain ⟨z1, z2⟩ := keep b o q
    rw [sortedHeap_old z1 (Heap.lt_size z2)]
    exact z2
end
def rSortD : List V → Hp → VK → Prop := fun vs H Q => ∃ (a : Addr) (ks : List (List Int)) (xs : List V), vs = [V.ref a] ∧ Rd H a (.dT (tkv ks xs)) ∧ ks.length = xs.length ∧ ks.length ≤ 100000 ∧ (∀ k ∈ ks, k ≠ []) ∧
  ∀ (p : Addr) (qs : List (Addr × List Int)), H p = none → (qs.map (·.2)).Perm ks → (∀ q ∈ qs, H q.1 = some (.tup (q.2.map V.int))) → (qs.map (·.2)).Pairwise LeT → Q (.ref p) (upd H p (.lst (qs.map fun p => V.ref p.1)))
theorem keys_pair {H : Hp} : ∀ {ks : List (List Int)} {xs : List V} {ys : List (List Key × Addr × Value)}, ks.length = xs.length → KT H (tkv ks xs) ys →
    ∃ l : List (Addr × List Int), l.map (·.2) = ks ∧ ys.map (fun y => y.2.1) = l.map (·.1) ∧ ∀ p ∈ l, H p.1 = some (.tup (p.2.map V.int))
  | [], [], ys, _, h => by
    cases h
    exact ⟨[], rfl, rfl, fun p hp => nomatch hp⟩
  | [], _ :: _, ys, l, h => by simp at l
  | _ :: _, [], ys, l, h => by simp at l
  | k :: ks, x :: xs, ys, hl, h => by
    rw [tkv_cons] at h
    cases h with
    | @cons _ q _ qs h1 t =>
      obtain ⟨l, e1, e2, e3⟩ := keys_pair (by simpa using hl) t
      refine ⟨(q.2.1, k) :: l, by rw [List.map_cons, e1], by rw [List.map_cons, e2]; rfl, fun p hp => ?_⟩
      rcases List.mem_cons.mp hp with rfl | hp
      · have := h1.2.1
        rw [kV_map] at this
        exact this
      · exact e3 p hp
theorem cr_sortD {X : Cx} (hc : X.calm = true) : CallR X (.builtin "sorted") rSortD := by
  intro pins s σ H vs us Q I r h
  obtain ⟨a, ks, xs, rfl, hH, hxl, hlen, hne, q⟩ := h
  rw [Vals.ref1 r]
  obtain ⟨z, hs, ys, pr, o, es, ep, ho, hx, hdt, he, hn⟩ := (show ObjOk X.prog X.w H s.heap a (.dT (tkv ks xs)) from hH.ok I.hok)
  have l1 : es.size = ys.length := size_of_entries he
  obtain ⟨l, e1, e2, e3⟩ := keys_pair hxl pr
  have l2 : ys.length = l.length := by
    have := congrArg List.length e2
    simpa using this
  have l3 : l.length = ks.length := by rw [← e1, List.length_map]
  have hk : ∀ p ∈ l, keyAt l (.ref p.1) = p.2 := fun p hp => by
    show ((l.find? fun x => x.1 == p.1).map (·.2)).getD [] = p.2
    cases hf : l.find? fun x => x.1 == p.1 with
    | none =>
      have := List.find?_eq_none.mp hf p hp
      simp at this
    | some p' =>
      have h1 := List.mem_of_find?_eq_some hf
      have h2 := List.find?_some hf
      have h2 : p'.1 = p.1 := by simpa using h2
      have h3 := e3 p' h1
      rw [h2, e3 p hp] at h3
      have h4 := Option.some.inj h3
      injection h4 with h4
      exact (int_inj h4).symm
  refine sorted_collected (k := keyAt l) (l := l) (kdl_raw hs hx hdt) (I.ok.hd hc) ho (by rw [l1, l2, l3, sizeLine_eq]; omega) (fun acc it => ?_) (by rw [l3, sizeLine_eq]; omega) hk (fun p hp => ?_) fun h' tk D out hs1 hp keep hd hg => ?_
  · have ea : acc.toList = ys.map fun y => Value.ref y.2.1 := by
      have hl : acc.toList.length = ys.length := by rw [Array.length_toList, it.1]; exact l1
      apply List.ext_getElem?
      intro j
      rw [List.getElem?_map]
      cases hj : acc.toList[j]? with
      | none =>
        have h1 := List.getElem?_eq_none_iff.mp hj
        rw [List.getElem?_eq_none (by omega)]
        all_goals rfl
      | some v =>
        obtain ⟨en, hen, hv⟩ := it.2 j v (by rw [← Array.getElem?_toList]; exact hj)
        have qe := entry_at he j
        rw [hen] at qe
        cases hb : ys[j]? with
        | none =>
          rw [hb] at qe
          exact nomatch (show some en = none from qe)
        | some b =>
          rw [hb] at qe
          have e2 : en = entryOfKey (tupleKind (mixKind X.prog X.w)) b := Option.some.inj qe
          rw [hv, e2]
          all_goals rfl
    rw [ea]
    have : (ys.map fun y => y.2.1).map Value.ref = (l.map (·.1)).map Value.ref := by rw [e2]
    rw [List.map_map, List.map_map] at this
    exact this
  · refine ⟨hne p.2 (by rw [← e1]; exact List.mem_map.mpr ⟨p, hp, rfl⟩), ?_⟩
    obtain ⟨ts, rt, ht, _⟩ := I.tuple (show SqT X.K H p.1 (p.2.map V.int) from .inl (.inl (e3 p hp)))
    exact ⟨ts.toArray, ht, intsAre_of rt⟩
  · let ad : Value → Addr × List Int := fun v => (match v with | .ref b => b | _ => 0, keyAt l v)
    have h1 : (l.map fun p => Value.ref p.1).map ad = l := by
      rw [List.map_map]
      conv => rhs; rw [← List.map_id l]
      apply List.map_congr_left
      intro p hp
      show (p.1, keyAt l (.ref p.1)) = p
      rw [hk p hp]
    have h2 : (out.map ad).Perm l := by
      have := hp.map ad
      rw [h1] at this
      exact this
    have h3 : (out.map ad).map (fun p => Value.ref p.1) = out := by
      rw [List.map_map]
      conv => rhs; rw [← List.map_id out]
      apply List.map_congr_left
      intro v hv'
      obtain ⟨p, _, rfl⟩ := List.mem_map.mp (hp.mem_iff.mp hv')
      rfl
    have h4 : ((out.map ad).map (·.2)).Pairwise LeT := by
      rw [List.map_map, List.pairwise_map]
      exact hs1
    obtain ⟨n, hg⟩ := hg
    have hz2 : ((out.map ad).map fun p => V.ref p.1).length ≤ sizeLine := by
      rw [List.length_map, h2.length_eq]
      rw [sizeLine_eq]
      omega
    have hvs : Vals ((out.map ad).map fun p => V.ref p.1) out := by
      have := Eb.refs_vals ((out.map ad).map (·.1))
      rw [List.map_map] at this
      have e5 : ((out.map ad).map (·.1)).map Value.ref = out := by rw [List.map_map]; exact h3
      rw [e5] at this
      exact this
    refine ⟨.ref D, _, I.laid (t' := tk) (o := .lst ((out.map ad).map fun p => V.ref p.1)) keep hd ⟨hz2, out, n, hvs, hg⟩, rfl, q D (out.map ad) (I.hok.fresh hd) (by rw [← e1]; exact h2.map _) (fun p hp => e3 p (h2.mem_iff.mp hp)) h4⟩
def sortDD (mu : Mu) : List D → Option D
  | [x] => match dicOf mu x with
    | some (ks, _) => if ks.all (fun k => !k.isEmpty) = true then some (.lst ((srtT ks).map fun ns => .tup (ns.map .int))) else none
    | none => none
  | _ => none
section
variable {X : Cx} {g : Gam}
theorem rp_ints {th : Th} {mu : Mu} {H : Hp} {b : Addr} {ns : List Int} (o : Ok g th mu H) (h : H b = some (.tup (ns.map V.int))) : Rp g th (Gz th mu H) (.tup (ns.map .int)) (.ref b) := by
  refine ⟨b, _, rfl, .inl ?_, map_int_rp ns⟩
  unfold Gz
  rw [if_neg, h]
  rintro (m | m)
  · obtain ⟨u, hu, su⟩ := o.solid m
    rw [h] at hu
    cases hu
    exact su _ rfl
  · obtain ⟨_, u, hu, su⟩ := o.hid b m
    rw [h] at hu
    cases hu
    exact su _ rfl
theorem cm_sortD (hc : X.calm = true) : CallM X g (.builtin "sorted") (pureF sortDD) := by
  refine .mk' (cr_sortD hc) fun th mu H ds vs d o hd e Q q => ?_
  unfold sortDD at e
  split at e
  · rename_i x
    split at e
    · rename_i ks es hx
      split at e
      · rename_i ha
        cases (Option.some.inj e)
        obtain ⟨v, rfl, hv⟩ := rpL1 hd
        obtain ⟨a, xs, rfl, q1, q2, q3, q4, q5⟩ := dic_at o hv hx
        refine ⟨a, ks, xs, rfl, q1, by rw [q5.length]; exact q2, q3, fun k hk z => ?_, fun p qs hp h1 h2 h3 => q _ _ (Evl.Ex.new hp) (rp_newLst o hp ?_)⟩
        · have := List.all_eq_true.mp ha k hk
          rw [z] at this
          cases this
        · have e5 : qs.map (·.2) = srtT ks := pwT_unique (h1.trans (srtT_perm ks).symm) h3 (srtT_pw ks)
          rw [← e5]
          clear e5 h1 h3
          induction qs with
          | nil => rfl
          | cons p qs ih => exact ⟨.ref p.1, _, rfl, rp_ints o (h2 p List.mem_cons_self), ih fun q hq => h2 q (List.mem_cons_of_mem _ hq)⟩
      · cases e
    · cases e
  · cases e
end
end Eb

/-! Eb: dicts and objects that are changed no more; list(reversed(..)); tuples compared. -/
namespace Eb
open PySem L2
open Evl (Ex ex_l ex_t)
section
variable {g : Gam} {th : Th} {mu mu' : Mu} {H : Hp}
/-- a cell is hidden for a while -/
theorem Ok.layC {k : Nat} {a : Addr} {c : Cell} (o : Ok g th mu H) (ha : th.ids[k]? = some a) (hc : mu[k]? = some c) (l : c.live = true) :
    Ok g (th.hide a) (mu.set k .dead) H ∧ Gz (th.hide a) (mu.set k .dead) H = Gz th mu H ∧ a ∉ th.hid ∧ a ∉ Eb.own th.ids (mu.set k .dead) := by
  obtain ⟨o2, _, _⟩ := o.freeze ha hc l
  have hl : k < mu.length := (List.getElem?_eq_some_iff.mp hc).1
  have ma : a ∈ Eb.own th.ids mu := own_mem.mpr ⟨k, _, ha, hc, l⟩
  have nh : a ∉ th.hid := fun m => (o.hid a m).1 ma
  have mem : ∀ b, b ∈ Eb.own th.ids (mu.set k .dead) ↔ b ∈ Eb.own th.ids mu ∧ b ≠ a := fun b => by
    constructor
    · intro h
      obtain ⟨j, d, e1, e2, e3⟩ := own_mem.mp h
      have hj : j ≠ k := by
        rintro rfl
        rw [List.getElem?_set_self hl] at e2
        have := Option.some.inj e2
        subst this
        cases e3
      rw [List.getElem?_set_ne (Ne.symm hj)] at e2
      refine ⟨own_mem.mpr ⟨j, d, e1, e2, e3⟩, ?_⟩
      rintro rfl
      exact hj (own_inj o.nod e1 ha e2 hc e3 l)
    · rintro ⟨h, ne⟩
      obtain ⟨j, d, e1, e2, e3⟩ := own_mem.mp h
      have hj : j ≠ k := by
        rintro rfl
        rw [ha] at e1
        exact ne (Option.some.inj e1).symm
      exact own_mem.mpr ⟨j, d, e1, by rw [List.getElem?_set_ne (Ne.symm hj)]; exact e2, e3⟩
  have eg : Gz (th.hide a) (mu.set k .dead) H = Gz th mu H := by
    funext b
    unfold Gz
    show (if b ∈ Eb.own th.ids (mu.set k .dead) ∨ b ∈ a :: th.hid then none else H b) = if b ∈ Eb.own th.ids mu ∨ b ∈ th.hid then none else H b
    by_cases m : b ∈ Eb.own th.ids mu ∨ b ∈ th.hid
    · rw [if_pos m, if_pos]
      rcases m with m | m
      · by_cases hb : b = a
        · exact .inr (by rw [hb]; exact List.mem_cons_self)
        · exact .inl ((mem b).mpr ⟨m, hb⟩)
      · exact .inr (List.mem_cons_of_mem _ m)
    · rw [if_neg m, if_neg]
      rintro (z | z)
      · exact m (.inl ((mem b).mp z).1)
      · rcases List.mem_cons.mp z with rfl | z
        · exact m (.inl ma)
        · exact m (.inr z)
  refine ⟨⟨o2.len, o2.nod, fun i b d e1 e2 => ?_, fun b m => ?_⟩, eg, nh, fun m => ((mem a).mp m).2 rfl⟩
  · rw [eg]
    by_cases hi : i = k
    · subst hi
      rw [List.getElem?_set_self hl] at e2
      have := Option.some.inj e2
      subst this
      trivial
    · rw [List.getElem?_set_ne (Ne.symm hi)] at e2
      exact CellOk.ids (th := th) (th' := th.hide a) rfl (o.cel i b d e1 e2)
  · rcases List.mem_cons.mp m with rfl | m
    · exact ⟨fun z => ((mem b).mp z).2 rfl, (o.cel k b _ ha hc).solid l⟩
    · obtain ⟨n, u⟩ := o.hid b m
      exact ⟨fun z => n ((mem b).mp z).1, u⟩
/-- a dict is locked for good -/
theorem frz_dict {k : Nat} {a : Addr} {ks : List (List Int)} {ds : List D} (o : Ok g th mu H) (ha : th.ids[k]? = some a) (hc : mu[k]? = some (.dic ks ds)) :
    ∃ xs, H a = some (.dT (tkv ks xs)) ∧ ∀ od, Fw g th mu H th (mu.set k .dead) (upd H a (.frz od (.dT (tkv ks xs)))) ∧ Rp g th (Gz th (mu.set k .dead) (upd H a (.frz od (.dT (tkv ks xs))))) (.dic ks ds) (.ref a) := by
  obtain ⟨xs, q1, q2, q3, q4, q5⟩ := o.cel _ a _ ha hc
  refine ⟨xs, q1, fun od => ?_⟩
  obtain ⟨o2, eg, nh, nm⟩ := o.layC ha hc rfl
  have o3 := Ok.rehide (o := .frz od (.dT (tkv ks xs))) o2 nm (fun _ z => nomatch z)
  obtain ⟨o4, ex, e4⟩ := o3.unhide nh
  have e5 : Gz (th.hide a) (mu.set k .dead) (upd H a (.frz od (.dT (tkv ks xs)))) = Gz th mu H := by
    rw [← eg]
    exact Gz_hide fun z => z.elim nm nh
  rw [e5] at ex
  refine ⟨⟨Pfx.refl, o4, ex, fun b m => upd_ne fun z => nh (by rw [← z]; exact m)⟩, a, od, xs, rfl, e4.trans upd_same, q2, q3, q4, RpL.mono Pfx.refl ex _ _ q5⟩
end
def sFrzD (i : Nat) : MS := fun rh mu => match rh[i]? with
  | some (some (.cel k)) => match mu[k]? with
    | some (.dic ks ds) => some (.nx (rh.set i (some (.dic ks ds))), mu.set k .dead)
    | _ => none
  | _ => none
section
variable {X : Cx} {g : Gam} {W : WX} {pos : Pos} {rest : List Stmt} {sb : MS} {e : Expr} {ma mb : ME}
theorem pms_frzD (i : Nat) (h : PSs X rest (canS g W sb)) : PSs X rest (canS g W (sSeq (sFrzD i) sb)) := ⟨fun pins s σ H Dn I hw => by
  obtain ⟨rh, mu, th, r, k, mu1, e, hk⟩ := can_seq hw
  unfold sFrzD at e
  split at e
  · rename_i c hd
    split at e
    · rename_i ks ds hc
      cases (Option.some.inj e)
      obtain ⟨v, e1, a, rfl, ha⟩ := r.slt i _ hd
      obtain ⟨xs, q1, q2⟩ := frz_dict r.ok ha hc
      obtain ⟨od, I1⟩ := I.lock q1 True.intro
      obtain ⟨f, hv⟩ := q2 od
      have r2 := r.fw f
      refine h.run pins s σ _ Dn I1 (hk th σ _ f ⟨r2.ok, by simp [r.len], fun j d2 e3 => ?_⟩)
      by_cases hj : j = i
      · subst hj
        rw [List.getElem?_set_self ((List.getElem?_eq_some_iff.mp hd).1)] at e3
        cases (Option.some.inj (Option.some.inj e3))
        exact ⟨_, e1, hv⟩
      · rw [List.getElem?_set_ne (Ne.symm hj)] at e3
        exact r2.slt j d2 e3
    · cases e
  · cases e⟩
end
/-! ### an object with lists of its own is changed no more -/
def frzAll : List D → Mu → Option (List D × Mu)
  | [], mu => some ([], mu)
  | d :: ds, mu => match frzD d mu with
    | some (d', mu1) => (frzAll ds mu1).map fun p => (d' :: p.1, p.2)
    | none => none
def frzO (d : D) (mu : Mu) : Option (D × Mu) := match d with
  | .cel k => match mu[k]? with
    | some (.ins c ds) => (frzAll ds (mu.set k .dead)).map fun p => (.ins c p.1, p.2)
    | _ => none
  | _ => none
section
variable {g : Gam} {th : Th} {mu mu' : Mu} {H : Hp}
theorem frzAll_ok : ∀ {ds es : List D} {vs : List V} {mu mu' : Mu}, Ok g th mu H → RpL g th (Gz th mu H) ds vs → frzAll ds mu = some (es, mu') → Fw g th mu H th mu' H ∧ RpL g th (Gz th mu' H) es vs
  | [], es, vs, mu, mu', o, h, e => by
    cases (Option.some.inj e)
    exact ⟨Fw.refl o, h⟩
  | d :: ds, es, vs, mu, mu', o, h, e => by
    have e : (match frzD d mu with | some (d', mu1) => (frzAll ds mu1).map fun p => (d' :: p.1, p.2) | none => none) = some (es, mu') := e
    cases hf : frzD d mu with
    | none => rw [hf] at e; cases e
    | some p =>
      obtain ⟨d', mu1⟩ := p
      rw [hf] at e
      have e : (frzAll ds mu1).map (fun p => (d' :: p.1, p.2)) = some (es, mu') := e
      cases ha : frzAll ds mu1 with
      | none => rw [ha] at e; cases e
      | some p =>
        obtain ⟨es', mu2⟩ := p
        rw [ha] at e
        cases (Option.some.inj e)
        obtain ⟨v, r, rfl, h1, h2⟩ := h
        obtain ⟨f, hv⟩ := frz_ok o h1 hf
        obtain ⟨f', hr⟩ := frzAll_ok f.ok (RpL.mono f.pf f.ex _ _ h2) ha
        exact ⟨f.trans f', v, r, rfl, hv.mono f'.pf f'.ex, hr⟩
theorem frzAll_len : ∀ {ds es : List D} {mu mu' : Mu}, frzAll ds mu = some (es, mu') → es.length = ds.length
  | [], es, mu, mu', e => by cases (Option.some.inj e); rfl
  | d :: ds, es, mu, mu', e => by
    have e : (match frzD d mu with | some (d', mu1) => (frzAll ds mu1).map fun p => (d' :: p.1, p.2) | none => none) = some (es, mu') := e
    cases hf : frzD d mu with
    | none => rw [hf] at e; cases e
    | some p =>
      obtain ⟨d', mu1⟩ := p
      rw [hf] at e
      have e : (frzAll ds mu1).map (fun p => (d' :: p.1, p.2)) = some (es, mu') := e
      cases ha : frzAll ds mu1 with
      | none => rw [ha] at e; cases e
      | some p =>
        obtain ⟨es', mu2⟩ := p
        rw [ha] at e
        cases (Option.some.inj e)
        rw [List.length_cons, List.length_cons, frzAll_len ha]
theorem frzO_ok {d d' : D} {v : V} (o : Ok g th mu H) (h : Rp g th (Gz th mu H) d v) (e : frzO d mu = some (d', mu')) : Fw g th mu H th mu' H ∧ Rp g th (Gz th mu' H) d' v := by
  unfold frzO at e
  split at e
  · rename_i k
    split at e
    · rename_i c ds hk
      cases ha : frzAll ds (mu.set k .dead) with
      | none => rw [ha] at e; cases e
      | some p =>
        obtain ⟨es, mu2⟩ := p
        rw [ha] at e
        cases (Option.some.inj e)
        obtain ⟨a, ea, hi⟩ := h
        obtain ⟨o2, e2, ga⟩ := o.freeze hi hk rfl
        obtain ⟨dx, ys, xs, q1, q2, q3, q4⟩ := o.cel _ a _ hi hk
        obtain ⟨f, hr⟩ := frzAll_ok o2 (RpL.mono Pfx.refl e2 _ _ q4) ha
        have f0 : Fw g th mu H th (mu.set k .dead) H := ⟨Pfx.refl, o2, e2, fun _ _ => rfl⟩
        have l := frzAll_len ha
        exact ⟨f0.trans f, a, dx, ys, xs, ea, f.ex _ _ (ga.trans q1), by rw [l]; exact q2, by rw [l]; exact q3, hr⟩
    · cases e
  · cases e
end
def mFrzO (ma : ME) : ME := bindM ma fun d _ mu => (frzO d mu).map fun p => (.ok p.1, p.2)
section
variable {X : Cx} {g : Gam} {W : WX} {pos p p2 pos2 : Pos} {e : Expr} {ma mb : ME}
theorem pm_frzO (h : PE X e (canE g W ma)) : PE X e (canE g W (mFrzO ma)) :=
  PEimp h fun σ H Q h => (can_bind (R := RE g) h).imp fun v H1 ⟨d, rh, mu1, th1, hd, r1, s, mu', e1, q⟩ => by
    have e1 : (frzO d mu1).map (fun p => (Rs.ok p.1, p.2)) = some (s, mu') := e1
    cases hf : frzO d mu1 with
    | none => rw [hf] at e1; cases e1
    | some p =>
      obtain ⟨d', mu2⟩ := p
      rw [hf] at e1
      cases (Option.some.inj e1)
      obtain ⟨f, hv⟩ := frzO_ok r1.ok hd hf
      exact q th1 v H1 f hv
/-! ### displays of one pair -/
theorem key_atG {th : Th} {G : Hp} {d : D} {v : V} {x : List Int} (h : Rp g th G d v) (e : keyOf d = some x) : ∃ b, v = .ref b ∧ G b = some (.tup (x.map V.int)) := by
  unfold keyOf at e
  split at e
  · rename_i ds
    obtain ⟨a, xs, e1, e2, e3⟩ := h
    have ex := intsOf_eq e3 e
    rcases e2 with e2 | ⟨l1, e4, _⟩
    · refine ⟨a, e1, ?_⟩
      rw [← ex]
      exact e2
    · rw [e4] at ex
      cases x with
      | nil => cases ex
      | cons i x => rw [List.map_cons] at ex; injection ex with h1 h2; cases h1
  · cases e
/-- what was made beside a hidden object -/
theorem unhide_fw {th th' : Th} {mu mu' : Mu} {H H' : Hp} {p : Addr} {u o : HO} (k : Ok g th mu H) (hp : H p = none) (so : Solid o) (f : Fw g (th.hide p) mu (upd H p u) th' mu' H') :
    Fw g th mu H ⟨th'.ids, th.hid⟩ mu' (upd H' p o) ∧ Ex (Gz th' mu' H') (Gz ⟨th'.ids, th.hid⟩ mu' (upd H' p o)) ∧ Gz ⟨th'.ids, th.hid⟩ mu' (upd H' p o) p = some o := by
  have eg0 : Gz (th.hide p) mu (upd H p u) = Gz th mu H := (Gz_hide (k.new hp)).trans (Gz_hide0 hp)
  have hh : th'.hid = p :: th.hid := f.pf.hid
  have et : th' = (Th.mk th'.ids th.hid).hide p := by
    cases th'
    simp only [Th.hide, Th.mk.injEq, true_and]
    exact hh
  have no : p ∉ Eb.own th'.ids mu' := (f.ok.hid p (by rw [hh]; exact List.mem_cons_self)).1
  have nh : p ∉ th.hid := fun m => k.new hp (.inr m)
  have k1 : Ok g ((Th.mk th'.ids th.hid).hide p) mu' H' := by rw [← et]; exact f.ok
  have k2 := Ok.rehide (o := o) k1 no so
  obtain ⟨k3, ex, e3⟩ := k2.unhide nh
  have e5 : Gz ((Th.mk th'.ids th.hid).hide p) mu' (upd H' p o) = Gz th' mu' H' := by
    have : Gz ((Th.mk th'.ids th.hid).hide p) mu' (upd H' p o) = Gz ((Th.mk th'.ids th.hid).hide p) mu' H' := Gz_hide fun z => z.elim no nh
    rw [this, ← et]
  rw [e5] at ex
  have ex0 : Ex (Gz th mu H) (Gz th' mu' H') := by rw [← eg0]; exact f.ex
  refine ⟨⟨⟨f.pf.ids, rfl⟩, k3, ex0.trans ex, fun b m => ?_⟩, ex, e3.trans upd_same⟩
  have nb : b ≠ p := fun z => nh (by rw [← z]; exact m)
  rw [upd_ne nb, f.hd b (by exact List.mem_cons_of_mem _ m), upd_ne nb]
def mDic1 (ma mb : ME) : ME := bindM ma fun x => bindM mb fun y => lift fun _ => (keyOf x).map fun k => .dic [k] [y]
theorem pm_dic1 {k v : Expr} (hu : X.A.units + 1 < cLine) (hk : PE X k (canE g W ma)) (hv : PE X v (canE g (fun cls d σ H => W cls d σ H) mb)) : PE X (.Dict [some k] [v] pos) (canE g W (mDic1 ma mb)) :=
  PEimp (pe_d1 hu hk hv) fun σ H Q ⟨rh, mu, th, r, s, mu', e, q⟩ p hp => by
    have eg : Gz (th.hide p) mu (upd H p (.dT [])) = Gz th mu H := (Gz_hide (r.ok.new hp)).trans (Gz_hide0 hp)
    have r0 : Rl g rh mu (th.hide p) σ (upd H p (.dT [])) := ⟨r.ok.hide hp (fun _ z => nomatch z), r.len, fun i d e => by
      obtain ⟨v, e1, e2⟩ := r.slt i d e
      refine ⟨v, e1, ?_⟩
      rw [eg]
      exact Rp.ids (th := th) (th' := th.hide p) rfl _ _ e2⟩
    have h' : canAt g W (fun th' G' (d : D) (kv : V × V) => ∃ kk dy, d = .dic [kk] [dy] ∧ (∃ b, kv.1 = .ref b ∧ G' b = some (.tup (kk.map V.int))) ∧ Rp g th' G' dy kv.2) (mDic1 ma mb) rh mu (th.hide p) σ (upd H p (.dT []))
        fun kv H2 => ∃ b ks, kv.1 = .ref b ∧ H2 b = some (.tup ((ks : List Key).map kV)) ∧ ∀ o, Q (.ref p) (upd H2 p (.frz o (.dT [(ks, kv.2)]))) := by
      refine ⟨s, mu', e, ?_⟩
      cases s with
      | ok a =>
        rintro th' ⟨x, y⟩ H' f ⟨kk, dy, rfl, ⟨b, hb1, hb2⟩, hy⟩
        refine ⟨b, kk.map Sum.inl, hb1, by rw [kV_map]; exact Gz_sub _ _ hb2, fun o => ?_⟩
        obtain ⟨f2, ex, ep⟩ := unhide_fw (o := .frz o (.dT [(kk.map Sum.inl, y)])) r.ok hp (fun _ z => nomatch z) f
        exact q _ (.ref p) _ f2 ⟨p, o, [y], rfl, ep, rfl, by show 1 ≤ 100000; decide, by simp, y, [], rfl, Rp.ids (th := th') (th' := ⟨th'.ids, th.hid⟩) rfl _ _ (hy.mono Pfx.refl ex), rfl⟩
      | er x =>
        intro th' cls dd H' f hx
        have hp' : H' p = some (.dT []) := (f.hd p List.mem_cons_self).trans upd_same
        have eu : upd H' p (.dT []) = H' := by
          funext b
          by_cases hb : b = p
          · rw [hb, upd_same, hp']
          · rw [upd_ne hb]
        obtain ⟨f2, ex, _⟩ := unhide_fw (o := .dT []) r.ok hp (fun _ z => nomatch z) f
        rw [eu] at f2 ex
        refine q _ cls dd H' f2 ?_
        obtain ⟨e1, e2⟩ := hx
        refine ⟨e1, e2.imp id ?_⟩
        rintro ⟨da, ys, xs, z1, z2, z3, z4⟩
        exact ⟨da, ys, xs, z1, ex _ _ z2, z3, RpL.ids (th := th') (th' := ⟨th'.ids, th.hid⟩) rfl _ _ (RpL.mono Pfx.refl ex _ _ z4)⟩
    refine ⟨rh, mu, th.hide p, r0, (canAt_bind (R := RE g) r0 h').imp fun x H1 ⟨dx, mu1, th1, f1, hx, r1, h1⟩ => ⟨rh, mu1, th1, r1, (canAt_bind (R := RE g) r1 h1).imp fun y H2 ⟨dy, mu2, th2, f2, hy, r2, h2⟩ => ?_⟩⟩
    obtain ⟨d, e, q2⟩ := canAt_lift r2 h2
    cases hk : keyOf dx with
    | none => rw [hk] at e; cases e
    | some kk =>
      rw [hk] at e
      cases (Option.some.inj e)
      exact ⟨((f1.trans f2).hd p List.mem_cons_self).trans upd_same, q2 th2 (x, y) H2 (Fw.refl r2.ok) ⟨kk, dy, rfl, key_atG (hx.mono f2.pf f2.ex) hk, hy⟩⟩
end
end Eb

/-! Eb: (int, int, tuple of ints) compared; list(reversed(..)). -/
namespace Eb
open PySem L2 PyProof.Rows
open Evl (Ex ex_l ex_t)
theorem rc_lt_tups {A : Around} {s : Shared} {l b : Addr} {items items2 : Array Value} {ns ms : List Int} (hl : IsTup s.heap l items) (hb : IsTup s.heap b items2) (hi : IntsAre items.toList ns) (hj : IntsAre items2.toList ms) (hu : A.units < cLine) :
    Ob.RcOp .Lt A s (.ref l) (.ref b) (HT.lexLt ns ms) := fun prog w E Q h => by
  obtain ⟨⟨cls, dd, data, sl⟩, ho, hc, n, hd⟩ := id hl
  obtain ⟨⟨cls2, dd2, data2, sl2⟩, ho2, hc2, n2, hd2⟩ := id hb
  simp only at hc hd hc2 hd2
  subst hc hd hc2 hd2
  exact PySem.richCompare_meets_room (op := .Lt) ⟨_, ho, rfl⟩ ⟨_, ho2, rfl⟩ PySem.F.slot_tuple_lt PySem.F.entry_tuple_lt (PySem.F.args_tuple_lt_2 _ _) (HT.tuple_lt_ints l b items items2 n n2 dd dd2 sl sl2 ns ms hi hj)
    ⟨ho, ho2, ⟨(fun x => nomatch x), h⟩⟩ hu
def lt3B (i i' j j' : Int) (eq : Bool) (ns ms : List Int) : Bool := if i = i' then (if j = j' then (if eq = true then false else HT.lexLt ns ms) else decide (j < j')) else decide (i < i')
def rLt3 (K : PySem.W.Frag) : R2 := fun x y H Q => ∃ (p q t t' : Addr) (i j i' j' : Int) (ns ms : List Int) (e e' : PyData), x = .ref p ∧ y = .ref q ∧ SqT K H p [.int i, .int j, .ref t] ∧ SqT K H q [.int i', .int j', .ref t'] ∧
  SqT K H t (ns.map V.int) ∧ SqT K H t' (ms.map V.int) ∧ Dp K H (.ref t) e ∧ Dp K H (.ref t') e' ∧ SeqAt.shaped e = true ∧ SeqAt.shaped e' = true ∧ Q (.bl (lt3B i i' j j' (PyData.eqv e e') ns ms)) H
section
variable {X : Cx}
theorem vals3 {i j : Int} {t : Addr} {us : List Value} (h : Vals [V.int i, V.int j, V.ref t] us) : ∃ a b, us = [.int i a, .int j b, .ref t] := by
  cases h with
  | cons r1 h =>
    cases h with
    | cons r2 h =>
      cases h with
      | cons r3 h =>
        cases h
        obtain ⟨a, rfl⟩ := r1
        obtain ⟨b, rfl⟩ := r2
        cases r3
        exact ⟨a, b, rfl⟩
theorem op_lt3 (hu : X.A.units + 80 < cLine) : OpR X (compareOp .Lt) (rLt3 X.K) := by
  intro pins s σ H x y v u Q I rx ry h
  obtain ⟨p, q, t, t', i, j, i', j', ns, ms, e, e', rfl, rfl, hp, hq, ht, ht', d1, d2, s1, s2, k⟩ := h
  cases rx
  cases ry
  obtain ⟨its, r1, p1, _⟩ := I.tuple hp
  obtain ⟨its2, r2, p2, _⟩ := I.tuple hq
  obtain ⟨ts, r3, p3, _⟩ := I.tuple ht
  obtain ⟨ts2, r4, p4, _⟩ := I.tuple ht'
  obtain ⟨a, b, rfl⟩ := vals3 r1
  obtain ⟨a', b', rfl⟩ := vals3 r2
  obtain ⟨as, rd⟩ := Dp.reads I e _ (.ref t) d1 rfl
  obtain ⟨bs, rd'⟩ := Dp.reads I e' _ (.ref t') d2 rfl
  have i1 : IntsAre ts ns := intsAre_of r3
  have i2 : IntsAre ts2 ms := intsAre_of r4
  have eq3 : SeqAt.EqAt X.A.in1 s (.ref t) (.ref t') (PyData.eqv e e') := SeqAt.eqAt_reads e e' X.A.in1 s _ _ as bs rd rd' (SeqAt.canLay_of_shaped s1) (SeqAt.canLay_of_shaped s2) (SeqAt.room_of_shaped s1 (by show X.A.units + 1 + 64 < cLine; omega))
  have lt3 : Ob.RcOp .Lt X.A.in1 s (.ref t) (.ref t') (HT.lexLt ns ms) := rc_lt_tups p3 p4 (by simpa using i1) (by simpa using i2) (by show X.A.units + 1 < cLine; omega)
  have R := Ob.RcOp.tuples_lt (A := X.A) (s := s) (e := fun n => if n = 0 then (i == i') else if n = 1 then (j == j') else PyData.eqv e e') (r := fun n => if n = 0 then decide (i < i') else if n = 1 then decide (j < j') else HT.lexLt ns ms) p1 p2 (by omega)
    (fun n h1 h2 => by
      have h1 : n < 3 := h1
      rcases n with _ | _ | _ | n
      · exact SeqAt.EqAt.int_int _ _ _ _
      · exact SeqAt.EqAt.int_int _ _ _ _
      · exact eq3
      · omega)
    (fun n h1 h2 _ => by
      have h1 : n < 3 := h1
      rcases n with _ | _ | _ | n
      · exact Ob.RcOp.lt_int _ _ _ _
      · exact Ob.RcOp.lt_int _ _ _ _
      · exact lt3
      · omega)
  have ez : Ob.lexAt (fun n => if n = 0 then (i == i') else if n = 1 then (j == j') else PyData.eqv e e') (fun n => if n = 0 then decide (i < i') else if n = 1 then decide (j < j') else HT.lexLt ns ms) (decide (3 < 3)) 0 (min 3 3) = lt3B i i' j j' (PyData.eqv e e') ns ms := by
    rw [show min 3 3 = 3 from rfl]
    unfold lt3B
    rw [Ob.lexAt_succ, Ob.lexAt_succ, Ob.lexAt_succ, Ob.lexAt_zero]
    by_cases e1 : i = i'
    · rw [if_pos (by simp [e1]), if_pos e1]
      by_cases e2 : j = j'
      · rw [if_pos (by simp [e2]), if_pos e2]
        by_cases e3 : PyData.eqv e e' = true
        · rw [if_pos (by simp [e3]), if_pos e3]
          rfl
        · rw [if_neg (by simpa using e3), if_neg e3]
          rfl
      · rw [if_neg (by simp [e2]), if_neg e2]
        rfl
    · rw [if_neg (by simp [e1]), if_neg e1]
      rfl
  have R' : Ob.RcOp .Lt X.A s (.ref p) (.ref q) (lt3B i i' j j' (PyData.eqv e e') ns ms) := by
    rw [← ez]
    exact R
  exact R' X.prog X.w X.xe (EP X pins σ Q) ⟨.bl _, H, I, rfl, k⟩
end
def lt3D (mu : Mu) (x y : D) : Option D := match x, y with
  | .tup [.int i, .int j, .tup ds], .tup [.int i', .int j', .tup es] => match intsOf ds, intsOf es, eqB mu (.tup ds) (.tup es) with
    | some ns, some ms, some b => some (.bl (lt3B i i' j j' b ns ms))
    | _, _, _ => none
  | _, _ => none
section
variable {X : Cx} {g : Gam} {W : WX} {pos p p2 pos2 : Pos} {e : Expr} {ma : ME}
theorem om_lt3 (hK : X.K = g.K) (hu : X.A.units + 80 < cLine) : OpM X g (compareOp .Lt) lt3D := by
  refine .mk' (op_lt3 hu) fun th mu H x y v u d o hx hy e Q q => ?_
  rw [hK]
  unfold lt3D at e
  split at e
  · rename_i i j ds i' j' es
    split at e
    · rename_i ns ms b h1 h2 h3
      cases (Option.some.inj e)
      obtain ⟨p, xs, rfl, sp, rp, _⟩ := sqT_of hx
      obtain ⟨p', xs', rfl, sp', rp', _⟩ := sqT_of hy
      obtain ⟨v1, v2, v3, rfl, q1, q2, q3⟩ := rpL3 rp
      obtain ⟨w1, w2, w3, rfl, z1, z2, z3⟩ := rpL3 rp'
      obtain ⟨e1, e2, d1, d2, s1, s2, rfl⟩ := eqB_dp o q3 z3 h3
      obtain ⟨t, ys, rfl, st, rt, _⟩ := sqT_of q3
      obtain ⟨t', ys', rfl, st', rt', _⟩ := sqT_of z3
      have g1 := intsOf_eq rt h1
      have g2 := intsOf_eq rt' h2
      subst g1 g2
      cases q1; cases q2; cases z1; cases z2
      exact ⟨p, p', t, t', i, j, i', j', ns, ms, e1, e2, rfl, rfl, sp, sp', st, st', d1, d2, s1, s2, q _ _ (fun _ _ z => z) rfl⟩
    · cases e
  · cases e
end
/-! ### list(reversed(a list)) -/
section
variable {prog : Program} {w : World} {A : Around} {E : Value → Shared → Prop} {s : Shared}
theorem ext_rev {S it l : Addr} {items : Array Value} {R : Result → Shared → Prop} {c₀ : Nat} (res : Value) (hh : A.handled = none) (hit : s.heap.IsRevIter it l ((items.size : Int) - 1)) (hl : s.heap.IsList l items) (hne : l ≠ it) (hSi : S ≠ it) (hSl : S ≠ l) (hn : items.size ≤ sizeLine)
    (hS : s.heap.get? S = some { cls := .type "list", data := .seq #[] c₀ })
    (hR : ∀ (h' : Heap) (tk : Nat) (acc : Array Value) (c' : Nat), (∀ b o, b ≠ S → b ≠ it → s.heap.get? b = some o → h'.get? b = some o) → h'.get? S = some { cls := .type "list", dict := none, data := .seq acc c', slots := #[] } → ItemsOf (fun i v => items[items.size - 1 - i]? = some v) acc items.size → R (.ok (.ret res)) { s with heap := h', toks := tk }) :
    wpAny (model prog w) A.in1 (Builtin.List.listExtendWith (.ref S) (.ref it) res)
      (fun fin s' => match fin with | .done f => R (.ok f) s' | .again c' => c'.quiet = true ∧ codeAny (model prog w) A c' R s') (fun e s' => R (.error e) s') s := by
  have W := (Walks.listRev (prog := prog) (w := w) (A := A.in1) hh it l hne items).toS
  have hSf : S ∉ [it, l] := by simp only [List.mem_cons, List.not_mem_nil, or_false, not_or]; exact ⟨hSi, hSl⟩
  have hT : s.TypeIs (.ref it) "list_reverseiterator" := hit.typeIs
  have h1 : Builtin.List.listSameRef (.ref S) (.ref it) = false := by simp [Builtin.List.listSameRef, hSi]
  unfold Builtin.List.listExtendWith
  refine wpAny_bind (wpAny_typeOf hT ?_)
  rw [if_neg (by rw [h1]; decide)]
  refine wpAny_bind (wpAny_pyIter_revIter hit ?_)
  refine wpAny_bind (wpAny_holding ?_)
  unfold Builtin.List.listLengthHint
  refine wpAny_bind (wpAny_specialOf hT RT.nolen_lri ?_)
  show wpAny _ A.in1 (specialOf (Value.ref it) (Str.ofString "__length_hint__") >>= _) _ _ _
  refine wpAny_bind (wpAny_specialOf hT RT.hint_lri ?_)
  generalize hid : ("list_reverseiterator.__length_hint__" : String) = id0
  wp_delta
  rw [show splitId id0 = some ("list_reverseiterator", "__length_hint__") from by subst hid; decide +kernel]
  subst hid
  refine wpAny_bind (wpAny_isInstance (b := true) hT (by rw [isSubtype_type]; kernel_rfl) ?_)
  refine wpAny_pure ?_
  rw [if_neg (by decide)]
  have e0 : ((items.size : Nat) : Int) - 1 - ((0 : Nat) : Int) = (items.size : Int) - 1 := by omega
  refine wpAny_pure ⟨plainId_quiet PySem.F.plain_extend_loop _, codeAny_extend_loopS W hn _ hSf _ items.size 0 _ _ _ rfl (Nat.zero_le _) ⟨Nat.zero_le _, by rw [e0]; exact hit, hl⟩ hS (ItemsOf.nil _) fun s' acc' c' hm hS' hacc => ?_⟩
  rw [Moved.eq_with hm]
  refine hR s'.heap s'.toks acc' c' (fun b o hb hi e => hm.heap b o (fun hmem => ?_) e) hS' hacc
  rcases List.mem_cons.mp hmem with e' | hmem
  · exact hb e'
  · exact hi (List.mem_singleton.mp hmem)
theorem call_list_rev {it l : Addr} {items : Array Value} {Q : Value → Shared → Prop} (hh : A.handled = none) (hit : s.heap.IsRevIter it l ((items.size : Int) - 1)) (hl : s.heap.IsList l items) (hne : l ≠ it) (hn : items.size ≤ sizeLine)
    (hQ : ∀ (h' : Heap) (tk : Nat) (acc : Array Value) (c : Nat), (∀ b o, b ≠ it → s.heap.get? b = some o → h'.get? b = some o) → h'.get? s.heap.objs.size = some { cls := .type "list", dict := none, data := .seq acc c, slots := #[] } →
      ItemsOf (fun i v => items[items.size - 1 - i]? = some v) acc items.size → Q (.ref s.heap.objs.size) { s with heap := h', toks := tk }) :
    wpAny (model prog w) A (call (.type "list") [.ref it]) Q E s := by
  obtain ⟨oi, hoi, _⟩ := id hit
  obtain ⟨ol, hol, _⟩ := id hl
  have ni : s.heap.objs.size ≠ it := Nat.ne_of_gt (Heap.lt_size hoi)
  have nl : s.heap.objs.size ≠ l := Nat.ne_of_gt (Heap.lt_size hol)
  refine callType_codes (Q₁ := fun obj s₁ => obj = .ref s.heap.objs.size ∧ s₁ = { s with heap := s.heap.push { cls := .type "list", data := .seq #[] } }) PySem.F.called_list (PySem.F.typeCall_list_1 _) PySem.F.entry_list_init
    (code_list_new _ ⟨rfl, rfl⟩) fun obj s₁ h₁ => ?_
  obtain ⟨rfl, rfl⟩ := h₁
  have hS : (s.heap.push { cls := .type "list", data := .seq #[] }).get? s.heap.objs.size = some { cls := .type "list", data := .seq #[] } := Heap.get?_push_size _ rfl
  refine ⟨⟨_, hS, rfl⟩, PySem.F.args_list_init_2 _ _, ?_⟩
  show wpAny _ _ (do let old ← Builtin.List.listItems (.ref s.heap.objs.size); Builtin.List.listUpdate (.ref s.heap.objs.size) (fun _ => #[]); letGo old.toList.reverse; Builtin.List.listExtendWith (.ref s.heap.objs.size) (.ref it) .none) _ _ _
  refine wpAny_bind ?_
  unfold Builtin.List.listItems
  refine wpAny_bind (wpAny_seqItems hS rfl (wpAny_pure ?_))
  show wpAny _ _ (updateSeq s.heap.objs.size (fun _ => #[]) >>= fun _ => letGo (#[] : Array Value).toList.reverse >>= fun _ => Builtin.List.listExtendWith (.ref s.heap.objs.size) (.ref it) .none) _ _ _
  refine wpAny_bind (wpAny_updateSeq hS rfl ?_)
  have hS₂ := Heap.get?_update_self (Obj.mapSeq (fun _ => (#[] : Array Value))) hS rfl
  have oth : ∀ b o, b ≠ s.heap.objs.size → s.heap.get? b = some o → ((s.heap.push { cls := .type "list", data := .seq #[] }).update s.heap.objs.size (Obj.mapSeq (fun _ => (#[] : Array Value)))).get? b = some o :=
    fun b o hb e => (Heap.get?_update_other _ _ (Ne.symm hb)).trans (Heap.get?_push_of_some _ e)
  refine wpAny_bind (wpAny_letGo ?_)
  refine ext_rev (S := s.heap.objs.size) (l := l) (items := items) .none hh (hit.at fun o e => oth it o (Ne.symm ni) e) (hl.at fun o e => oth l o (Ne.symm nl) e) hne ni nl hn hS₂ fun h' tk acc c' hk hS' hacc => ?_
  exact ⟨rfl, hQ h' tk acc c' (fun b o hb e => hk b o (Nat.ne_of_lt (Heap.lt_size e)) hb (oth b o (Nat.ne_of_lt (Heap.lt_size e)) e)) hS' hacc⟩
end
def tLstRev (K : PySem.W.Frag) (te : TE) : TE := fun σ H Q => te σ H fun v H1 => ∃ (a : Addr) (xs : List V), v = .ref a ∧ SqL K H1 a xs ∧ ∀ q, H1 q = none → Q (.ref q) (upd H1 q (.lst xs.reverse))
section
variable {X : Cx}
theorem pe_lstRev {e : Expr} {te : TE} {p p2 pos pos2 : Pos} (hc : X.calm = true) (hg : Gl X "list") (hm : X.mg "list" = none) (hg2 : Gl X "reversed") (hm2 : X.mg "reversed" = none) (he : PE X e te)
    (hs : starEach [e] X.env = (false, eval e X.env) :: starEach [] X.env := by rfl)
    (hs2 : starEach [.Call (.Name "reversed" p2) [e] [] pos2] X.env = (false, eval (.Call (.Name "reversed" p2) [e] [] pos2) X.env) :: starEach [] X.env := by rfl) :
    PE X (.Call (.Name "list" p) [.Call (.Name "reversed" p2) [e] [] pos2] [] pos) (tLstRev X.K te) := by
  refine ⟨fun pins s σ H Q I h => ?_⟩
  refine Call_ (ld_blt I hg hm bt_list (PyProof.Rows.callWith_type1 (args_cons (Call_ (ld_blt I hg2 hm2 PyProof.Rows.boot_reversed (PyProof.Rows.callWith_type1 (args_cons (thn (he.run pins s σ H _ I h) fun u s1 ⟨v, H1, I1, r1, q1⟩ => args_nil ?_) hs) hs rfl))) hs2) hs2 rfl))
  obtain ⟨a, xs, ev, hq, q⟩ := q1
  subst ev
  obtain rfl : u = Value.ref a := r1
  obtain ⟨its, rv, p', hz⟩ := I1.list hq
  refine call_reversed_list p'.isList (args_nil ?_)
  have k0 : ∀ b o, s1.heap.get? b = some o → (s1.heap.push (revObj a ((its.toArray.size : Int) - 1))).get? b = some o := fun b o e => Heap.get?_push_of_some _ e
  have I2 : Inv X pins σ H1 { s1 with heap := s1.heap.push (revObj a ((its.toArray.size : Int) - 1)) } := I1.kept (t' := s1.toks) k0
  obtain ⟨f0, f1, f2, f3, f4, f5⟩ := I1.fpOk (H' := H1) (b := s1.heap.objs.size) (Nat.le_refl _) (I1.hok.fresh (Nat.le_refl _))
  have hl := p'.isList
  obtain ⟨ol, hol, _⟩ := id hl
  have hne : a ≠ s1.heap.objs.size := Nat.ne_of_lt (Heap.lt_size hol)
  have hn : its.toArray.size ≤ sizeLine := by rw [List.size_toArray, ← rv.length]; exact hz
  refine call_list_rev (s := { s1 with heap := s1.heap.push (revObj a ((its.toArray.size : Int) - 1)) }) (I1.ok.hd hc) ⟨_, Heap.get?_push_size _ rfl, rfl, rfl⟩ (hl.push _) hne hn fun h' tk acc c hk hS hi => ?_
  have kk : ∀ b o, s1.heap.get? b = some o → h'.get? b = some o := fun b o e => hk b o (Nat.ne_of_lt (Heap.lt_size e)) (k0 b o e)
  have I3 : Inv X pins σ (upd H1 (s1.heap.push (revObj a ((its.toArray.size : Int) - 1))).objs.size (.lst xs.reverse)) { s1 with heap := h', toks := tk } :=
    I1.laid (t' := tk) (a := (s1.heap.push (revObj a ((its.toArray.size : Int) - 1))).objs.size) (o := .lst xs.reverse) kk (by rw [size_push']; exact Nat.le_succ _) ⟨by rw [List.length_reverse]; exact hz, acc.toList, c, RT.vals_rev rv hi, by rw [Array.toArray_toList]; exact hS⟩
  exact ⟨.ref _, _, I3, rfl, q _ (I1.hok.fresh (by rw [size_push']; exact Nat.le_succ _))⟩
end
def revD (mu : Mu) (d : D) : Option D := (lstOf mu d).map fun ds => .lst ds.reverse
def mRevL (ma : ME) : ME := bindM ma fun d => lift fun mu => revD mu d
section
variable {X : Cx} {g : Gam} {W : WX} {pos p p2 pos2 : Pos} {e : Expr} {ma : ME}
theorem pm_revL (hc : X.calm = true) (hm : X.mg "list" = none) (hm2 : X.mg "reversed" = none) (he : PE X e (canE g W ma)) (hg : Gl X "list" := by rfl) (hg2 : Gl X "reversed" := by rfl)
    (hs : starEach [e] X.env = (false, eval e X.env) :: starEach [] X.env := by rfl)
    (hs2 : starEach [.Call (.Name "reversed" p2) [e] [] pos2] X.env = (false, eval (.Call (.Name "reversed" p2) [e] [] pos2) X.env) :: starEach [] X.env := by rfl) :
    PE X (.Call (.Name "list" p) [.Call (.Name "reversed" p2) [e] [] pos2] [] pos) (canE g W (mRevL ma)) :=
  PEimp (pe_lstRev hc hg hm hg2 hm2 he hs hs2) fun σ H Q h => (can_bind (R := RE g) h).imp fun v H1 ⟨d, rh, mu1, th1, hd, r1, h1⟩ => by
    obtain ⟨d', e, q⟩ := canAt_lift r1 h1
    unfold revD at e
    cases hl : lstOf mu1 d with
    | none => rw [hl] at e; cases e
    | some ds =>
      rw [hl] at e
      cases (Option.some.inj e)
      obtain ⟨a, xs, rfl, q1, q2⟩ := lst_at r1.ok hd hl
      exact ⟨a, xs, rfl, SqL.of q1, fun b hb => q th1 _ _ (Fw.heap r1.ok (Evl.Ex.new hb)) (rp_newLst r1.ok hb q2.rev)⟩
end
theorem hu1 {k : Nat} {A : Around} (hr : Room k A) : A.units + 1 < cLine := by
  have := hu80 hr
  omega
end Eb

/-! Eb: dict(pairs), the keys tuples of ints, none twice. -/
namespace Eb
open PySem L2 PyProof.Rows
open Evl (Ex ex_l ex_t)
structure PrT where
  p : Addr
  b : Addr
  k : List Int
  y : V
def rDicP (K : PySem.W.Frag) : List V → Hp → VK → Prop := fun vs H Q => ∃ (a : Addr) (ps : List PrT), vs = [V.ref a] ∧ SqL K H a (ps.map fun p => V.ref p.p) ∧ (∀ p ∈ ps, SqT K H p.p [.ref p.b, p.y] ∧ H p.b = some (.tup (p.k.map V.int))) ∧ (ps.map (·.k)).Nodup ∧ ps.length ≤ 100000 ∧
  ∀ q o, H q = none → Q (.ref q) (upd H q (.frz o (.dT (tkv (ps.map (·.k)) (ps.map (·.y))))))
section
variable {X : Cx}
theorem prs_of {pins : List (Addr × Obj)} {σ : L2.St} {H : Hp} {s : Shared} (I : Inv X pins σ H s) : ∀ {ps : List PrT}, (∀ p ∈ ps, SqT X.K H p.p [.ref p.b, p.y] ∧ H p.b = some (.tup (p.k.map V.int))) →
    ∃ zs : List (PrT × Value), zs.map (·.1) = ps ∧ ∀ z ∈ zs, RelV z.1.y z.2 ∧ IsTup s.heap z.1.p #[.ref z.1.b, z.2] ∧ H z.1.b = some (.tup (z.1.k.map V.int))
  | [], _ => ⟨[], rfl, fun z h => nomatch h⟩
  | p :: ps, h => by
    obtain ⟨zs, e, hz⟩ := prs_of I (ps := ps) fun q hq => h q (List.mem_cons_of_mem _ hq)
    obtain ⟨h1, h2⟩ := h p List.mem_cons_self
    obtain ⟨its, rv, ht, _⟩ := I.tuple h1
    obtain ⟨u, y, ei, ru, ry⟩ := vals2 rv
    subst ei
    cases ru
    refine ⟨(p, y) :: zs, by rw [List.map_cons, e], fun z hm => ?_⟩
    rcases List.mem_cons.mp hm with rfl | hm
    · exact ⟨ry, ht, h2⟩
    · exact hz z hm
theorem cr_dicP (hcalm : X.calm = true) (hu : X.A.units + 80 < cLine) : CallR X (.type "dict") (rDicP X.K) := by
  intro pins s σ H xs us Q I r q
  obtain ⟨a, ps, rfl, hq, hp, nd, hn, q⟩ := q
  rw [Vals.ref1 r]
  obtain ⟨its, rv, pl, hz⟩ := I.list hq
  have ei : its = ps.map fun p => Value.ref p.p := by
    have e0 : ps.map (fun p => V.ref p.p) = (ps.map (·.p)).map V.ref := by rw [List.map_map]; rfl
    rw [e0] at rv
    rw [Eb.vals_refs rv, List.map_map]; rfl
  obtain ⟨zs, e1, hz2⟩ := prs_of I hp
  obtain ⟨o, n, ho, hc, hd, hdat⟩ := pl
  have lz : zs.length = ps.length := by rw [← e1, List.length_map]
  let prs : List (Value × Value) := zs.map fun z => (.ref z.1.b, z.2)
  let ys : List (List Key × Addr × Value) := zs.map fun z => (z.1.k.map Sum.inl, z.1.b, z.2)
  have lp : prs.length = ps.length := by rw [← lz]; exact List.length_map ..
  have lys : ys.length = ps.length := by rw [← lz]; exact List.length_map ..
  have eat : ∀ (j : Nat) (z : PrT × Value), zs[j]? = some z → its.toArray[j]? = some (Value.ref z.1.p) := fun j z e => by
    rw [ei, ← e1]
    simp [e]
  have kin : ∀ x ∈ ys, ∃ z ∈ zs, x = (z.1.k.map Sum.inl, z.1.b, z.2) := fun x hx => by
    obtain ⟨z, hz, e⟩ := List.mem_map.mp hx
    exact ⟨z, hz, e.symm⟩
  have P := PySem.PairArg.list (prog := X.prog) (w := X.w) a its.toArray (fun j => ((zs[j]?).map (·.1.p)).getD 0) prs
  have nd2 : (ys.map (·.1)).Nodup := by
    have e2 : ys.map (·.1) = (ps.map (·.k)).map (List.map Sum.inl) := by
      rw [← e1]
      simp [ys]
    rw [e2]
    exact List.Pairwise.map _ (fun x y h z => h (key_inj' z)) nd
  refine PySem.call_dict_pairsH (knd := tupleKind (mixKind X.prog X.w)) (ps := ys) P (I.ok.hd hcalm) (by show X.A.units + 1 + 1 < cLine; omega) ⟨⟨o, n, ho, hc, hd, hdat⟩, ?_, fun j k v hj => ?_⟩ ⟨by rw [lys, lp], fun i key v hi => ?_⟩ (fun h' hk x hx => ?_) (by rw [lp, sizeLine_eq]; omega) fun h' tk hd' k => ?_
  · rw [ei, lp]; simp
  · obtain ⟨z, hz, e⟩ : ∃ z, zs[j]? = some z ∧ (Value.ref z.1.b, z.2) = (k, v) := by
      rw [List.getElem?_map] at hj
      cases hzj : zs[j]? with
      | none => rw [hzj] at hj; cases hj
      | some z => rw [hzj] at hj; exact ⟨z, rfl, Option.some.inj hj⟩
    cases e
    have hm := hz2 z (List.mem_of_getElem? hz)
    have et : ((zs[j]?).map (·.1.p)).getD 0 = z.1.p := by rw [hz]; rfl
    refine ⟨(eat j z hz).trans (by show _ = some (Value.ref (((zs[j]?).map (·.1.p)).getD 0)); rw [et]), ?_⟩
    show PySem.PairAt s.heap (((zs[j]?).map (·.1.p)).getD 0) _ _
    rw [et]
    exact .inl hm.2.1
  · obtain ⟨z, hz, e⟩ : ∃ z, zs[i]? = some z ∧ (Value.ref z.1.b, z.2) = (key, v) := by
      have hi : prs[i]? = some (key, v) := hi
      rw [List.getElem?_map] at hi
      cases hzj : zs[i]? with
      | none => rw [hzj] at hi; cases hi
      | some z => rw [hzj] at hi; exact ⟨z, rfl, Option.some.inj hi⟩
    cases e
    exact ⟨z.1.k.map Sum.inl, z.1.b, by rw [List.getElem?_map, hz]; rfl, rfl⟩
  · obtain ⟨z, hz, rfl⟩ := kin x hx
    obtain ⟨o', it', n', h1, h2, h3, h4⟩ := key_of (ks := z.1.k.map Sum.inl) I.hok (by rw [kV_map]; exact (hz2 z hz).2.2)
    exact ⟨o', it', n', hk _ _ (Nat.ne_of_lt (Heap.lt_size h1)) (by simp) h1, h2, h3, h4⟩
  · have hm : (s.heap.objs.size == sysModules) = false := beq_eq_false_iff_ne.mpr (Nat.ne_of_gt I.big)
    rw [PySem.storedAllH_nil_of_nodup ys nd2] at hd'
    obtain ⟨od, es, ep, h1, h2, h3, h4, _, h5⟩ := hd'
    have hlen : (tkv (ps.map (·.k)) (ps.map (·.y))).length ≤ sizeLine := by
      unfold tkv
      rw [List.length_zip, List.length_map, List.length_map, List.length_map, sizeLine_eq]
      omega
    have rel : ∀ (zs : List (PrT × Value)), (∀ z ∈ zs, RelV z.1.y z.2 ∧ H z.1.b = some (.tup (z.1.k.map V.int))) → s.heap.objs.size ∉ zs.map (·.1.b) →
        KT (upd H s.heap.objs.size (.frz od (.dT (tkv (ps.map (·.k)) (ps.map (·.y)))))) (tkv ((zs.map (·.1)).map (·.k)) ((zs.map (·.1)).map (·.y))) (zs.map fun z => (z.1.k.map Sum.inl, z.1.b, z.2)) := fun zs => by
      induction zs with
      | nil => intro _ _; exact .nil
      | cons z zs ih =>
        intro h nm
        have h0 := h z List.mem_cons_self
        refine .cons ⟨rfl, ?_, h0.1⟩ (ih (fun w hw => h w (List.mem_cons_of_mem _ hw)) fun m => nm (List.mem_cons_of_mem _ m))
        rw [upd_ne (fun e => nm (by rw [List.map_cons, ← e]; exact List.mem_cons_self)), kV_map]
        exact h0.2
    have nm : s.heap.objs.size ∉ zs.map (·.1.b) := fun m => by
      obtain ⟨z, hz, e⟩ := List.mem_map.mp m
      have := (hz2 z hz).2.2
      rw [e, I.hok.fresh (Nat.le_refl _)] at this
      cases this
    have rr := rel zs (fun z hz => ⟨(hz2 z hz).1, (hz2 z hz).2.2⟩) nm
    rw [e1] at rr
    refine ⟨.ref s.heap.objs.size, _, I.laid (t' := tk) (o := .frz od (.dT (tkv (ps.map (·.k)) (ps.map (·.y))))) (fun b ob e => k b ob (by simp) e) (Nat.le_refl _) ⟨h1, hlen, hm, ys, rr, od, es, ep, h1, h2, h3, h4, h5⟩, rfl, q _ od (I.hok.fresh (Nat.le_refl _))⟩
end
/-- the pairs of a list -/
def prsD : List D → Option (List (List Int) × List D)
  | [] => some ([], [])
  | .tup [x, y] :: r => match keyOf x, prsD r with
    | some k, some p => some (k :: p.1, y :: p.2)
    | _, _ => none
  | _ :: _ => none
def dicPD (mu : Mu) : List D → Option D
  | [x] => match lstOf mu x with
    | some ds => match prsD ds with
      | some p => if p.1.Nodup ∧ ds.length ≤ 100000 then some (.dic p.1 p.2) else none
      | none => none
    | none => none
  | _ => none
section
variable {X : Cx} {g : Gam} {th : Th} {mu : Mu} {H : Hp}
theorem prsD_eq : ∀ {ds : List D} {vs : List V} {p : List (List Int) × List D}, RpL g th (Gz th mu H) ds vs → prsD ds = some p →
    ∃ ps : List PrT, vs = ps.map (fun p => V.ref p.p) ∧ ps.map (·.k) = p.1 ∧ RpL g th (Gz th mu H) p.2 (ps.map (·.y)) ∧ ∀ q ∈ ps, SqT g.K H q.p [.ref q.b, q.y] ∧ H q.b = some (.tup (q.k.map V.int)) := by
  intro ds
  induction ds with
  | nil =>
    intro vs p h e
    cases (Option.some.inj e)
    exact ⟨[], h, rfl, rfl, fun q hq => nomatch hq⟩
  | cons d ds ih =>
    intro vs p h e
    obtain ⟨v, r, rfl, h1, h2⟩ := h
    unfold prsD at e
    split at e
    · rename_i hh
      cases hh
    · rename_i x y r' hh
      cases hh
      split at e
      · rename_i k p' hk hp
        cases (Option.some.inj e)
        obtain ⟨ps, e1, e2, e3, e4⟩ := ih h2 hp
        obtain ⟨a, xs, rfl, s1, r1, _⟩ := sqT_of h1
        obtain ⟨v1, v2, rfl, q1, q2⟩ := rpL2 r1
        obtain ⟨b, rfl, hb⟩ := key_at q1 hk
        rw [kV_map] at hb
        refine ⟨⟨a, b, k, v2⟩ :: ps, by rw [e1]; rfl, by rw [List.map_cons, e2], ⟨v2, _, rfl, q2, e3⟩, fun q hq => ?_⟩
        rcases List.mem_cons.mp hq with rfl | hq
        · exact ⟨s1, hb⟩
        · exact e4 q hq
      · cases e
    · cases e
theorem prsD_len : ∀ {ds : List D} {p : List (List Int) × List D}, prsD ds = some p → p.1.length = ds.length ∧ p.2.length = ds.length := by
  intro ds
  induction ds with
  | nil =>
    intro p e
    cases (Option.some.inj e)
    exact ⟨rfl, rfl⟩
  | cons d ds ih =>
    intro p e
    unfold prsD at e
    split at e
    · rename_i hh
      cases hh
    · rename_i x y r' hh
      cases hh
      split at e
      · rename_i k p' hk hp
        cases (Option.some.inj e)
        have := ih hp
        simp [this]
      · cases e
    · cases e
theorem cm_dicP (hK : X.K = g.K) (hc : X.calm = true) (hu : X.A.units + 80 < cLine) : CallM X g (.type "dict") (pureF dicPD) := by
  refine .mk' (cr_dicP hc hu) fun th mu H ds vs d o hd e Q q => ?_
  rw [hK]
  unfold dicPD at e
  split at e
  · rename_i x
    split at e
    · rename_i es hx
      split at e
      · rename_i p hp
        split at e
        · rename_i hl
          cases (Option.some.inj e)
          obtain ⟨v, rfl, hv⟩ := rpL1 hd
          obtain ⟨a, xs, rfl, s1, r1⟩ := lst_at o hv hx
          obtain ⟨ps, rfl, e2, e3, e4⟩ := prsD_eq r1 hp
          have l1 := prsD_len hp
          have l2 : ps.length = es.length := by rw [← l1.1, ← e2, List.length_map]
          refine ⟨a, ps, rfl, SqL.of s1, e4, by rw [e2]; exact hl.1, by omega, fun b od hb => q _ _ (Evl.Ex.new hb) ⟨b, od, ps.map (·.y), rfl, ?_, by omega, by omega, hl.1, RpL.mono Pfx.refl (Gz_ex (Evl.Ex.new hb)) _ _ e3⟩⟩
          rw [← e2]
          unfold Gz
          rw [if_neg (o.new hb), upd_same]
        · cases e
      · cases e
    · cases e
  · cases e
end
end Eb

/-! Eb: list(range(n)) and list + list as cells, pop, sorted pairs (tuple of ints, int). -/
namespace Eb
open PySem L2 PyProof.Rows
open Evl (Ex ex_l ex_t)
def addC (x y : D) (mu : Mu) : Option (D × Mu) := match lstOf mu x, lstOf mu y with
  | some a, some b => if a.length + b.length ≤ 100000 then some (.cel mu.length, mu ++ [.lst (a ++ b)]) else none
  | _, _ => none
def mAddC (ma mb : ME) : ME := bindM ma fun x => bindM mb fun y _ mu => (addC x y mu).map fun p => (.ok p.1, p.2)
def lstRgF (d : D) (mu : Mu) : Option (D × Mu) := match d with
  | .int n => if 0 ≤ n ∧ n ≤ 1000 then some (.cel mu.length, mu ++ [.lst ((List.range n.toNat).map fun (i : Nat) => .int (i : Int))]) else none
  | _ => none
def mLstRg (ma : ME) : ME := bindM ma fun d _ mu => (lstRgF d mu).map fun p => (.ok p.1, p.2)
def popF : MtF := fun d ds mu => match d, ds with
  | .cel k, [.int i] => match mu[k]? with
    | some (.lst xs) => if 0 ≤ i ∧ i ≤ 1000 then (xs[i.toNat]?).map fun x => (x, mu.set k (.lst (xs.eraseIdx i.toNat))) else none
    | _ => none
  | _, _ => none
section
variable {X : Cx} {g : Gam} {W : WX} {e a b : Expr} {pos pos2 p p2 : Pos} {ma mb : ME} {th : Th} {mu : Mu} {H : Hp}
theorem pm_addC (ha : PE X a (canE g W ma)) (hb : PE X b (canE g W mb)) : PE X (.BinOp a .Add b pos) (canE g W (mAddC ma mb)) :=
  PEimp (pe_op op_cat ha hb) fun σ H Q h => by
    refine can.imp (can_bind (R := RE g) h) fun x H1 ⟨d, rh, mu1, th1, hx, r1, h1⟩ => ⟨rh, mu1, th1, r1, ?_⟩
    refine (canAt_bind (R := RE g) r1 h1).imp fun y H2 ⟨d2, mu2, th2, f2, hy, r2, s, mu', e, q⟩ => ?_
    have e : (addC d d2 mu2).map (fun p => (Rs.ok p.1, p.2)) = some (s, mu') := e
    have hx2 := hx.mono f2.pf f2.ex
    cases ha : addC d d2 mu2 with
    | none => rw [ha] at e; cases e
    | some p =>
      rw [ha] at e
      cases (Option.some.inj e)
      unfold addC at ha
      split at ha
      · rename_i l1 l2 k1 k2
        split at ha
        · rename_i hl
          cases (Option.some.inj ha)
          obtain ⟨a1, xs, rfl, s1, q1⟩ := lst_at r2.ok hx2 k1
          obtain ⟨a2, ys, rfl, s2, q2⟩ := lst_at r2.ok hy k2
          refine ⟨a1, a2, xs, ys, rfl, rfl, s1, s2, Evl.sz_of (by rw [q1.length, q2.length]; exact hl), fun p hp => ?_⟩
          obtain ⟨f, hr⟩ := cell_new r2.ok hp (q1.append q2)
          exact q _ _ _ f hr
        · cases ha
      · cases ha
theorem rgV_0 (n : Int) : rgV 0 n = ((List.range n.toNat).map fun (i : Nat) => (i : Int)).map V.int := by
  unfold rgV
  rw [List.map_map, Int.sub_zero]
  apply List.map_congr_left
  intro i _
  show V.int (0 + (i : Int)) = V.int (i : Int)
  rw [Int.zero_add]
theorem pm_lstRg (hc : X.calm = true) (hm : X.mg "list" = none) (hm2 : X.mg "range" = none) (he : PE X e (canE g W ma)) (hg : Gl X "list" := by rfl) (hg2 : Gl X "range" := by rfl)
    (na : starEach [e] X.env = (false, eval e X.env) :: starEach [] X.env := by rfl)
    (nb : starEach [.Call (.Name "range" p2) [e] [] pos2] X.env = (false, eval (.Call (.Name "range" p2) [e] [] pos2) X.env) :: starEach [] X.env := by rfl) :
    PE X (.Call (.Name "list" p) [.Call (.Name "range" p2) [e] [] pos2] [] pos) (canE g W (mLstRg ma)) :=
  PEimp (pe_listRg hc hg hm (prg_1 hg2 hm2 he na) nb) fun σ H Q h => (can_bind (R := RE g) h).imp fun v H1 ⟨d, rh, mu1, th1, hd, r1, s, mu', e, q⟩ => by
    have e : (lstRgF d mu1).map (fun p => (Rs.ok p.1, p.2)) = some (s, mu') := e
    cases d with
    | int n =>
      by_cases hn : 0 ≤ n ∧ n ≤ 1000
      · have e9 : lstRgF (.int n) mu1 = some (.cel mu1.length, mu1 ++ [.lst ((List.range n.toNat).map fun (i : Nat) => .int (i : Int))]) := if_pos hn
        rw [e9] at e
        cases (Option.some.inj e)
        refine ⟨n, hd, RgOk.of_le (by omega) (by omega) (by omega) (by omega), fun p hp => ?_⟩
        rw [rgV_0]
        have hr : RpL g th1 (Gz th1 mu1 H1) ((List.range n.toNat).map fun (i : Nat) => D.int (i : Int)) (((List.range n.toNat).map fun (i : Nat) => (i : Int)).map V.int) := by
          have := map_int_rp (g := g) (th := th1) (G := Gz th1 mu1 H1) ((List.range n.toNat).map fun (i : Nat) => (i : Int))
          rw [List.map_map] at this
          exact this
        obtain ⟨f, hr⟩ := cell_new r1.ok hp hr
        exact q _ _ _ f hr
      · have e9 : lstRgF (.int n) mu1 = none := if_neg hn
        rw [e9] at e
        cases e
    | _ => cases e
theorem ms_pop : MtS X g "list" "list.pop" isCell popF := by
  refine ⟨_, mt_popAt, fun th mu H d v o h c => isCell_ty o h c, fun th mu H d v ds vs d' mu' o h hs e Q q => ?_⟩
  unfold popF at e
  split at e
  · rename_i k i
    split at e
    · rename_i xs hk
      split at e
      · rename_i hi
        cases hx : xs[i.toNat]? with
        | none => rw [hx] at e; cases e
        | some x =>
          rw [hx] at e
          cases (Option.some.inj e)
          obtain ⟨w, rfl, hw⟩ := rpL1 hs
          obtain ⟨a, rfl, ha⟩ := h
          obtain ⟨ys, q1, q2⟩ := o.cel _ a _ ha hk
          obtain ⟨y, hy, ry⟩ := q2.get hx
          have l : i.toNat < xs.length := (List.getElem?_eq_some_iff.mp hx).1
          have f := cell_set (es := xs.eraseIdx i.toNat) (ys := ys.eraseIdx i.toNat) o ha hk (by
            rw [List.eraseIdx_eq_take_drop_succ, List.eraseIdx_eq_take_drop_succ]
            exact RpL.append (q2.take _) (q2.drop _))
          cases hw
          have e63 : (2 : Int) ^ 63 = 9223372036854775808 := by decide
          refine ⟨a, ys, i, i.toNat, y, rfl, rfl, q1, by omega, by omega, ?_, hy, q _ _ _ f (ry.mono f.pf ?_)⟩
          · unfold seqIndex?
            have hl := q2.length
            have c : ¬ i < 0 := by omega
            simp only [c, if_false]
            rw [if_pos]
            rw [Bool.and_eq_true]
            exact ⟨decide_eq_true (by omega), decide_eq_true (by omega)⟩
          · exact f.ex
      · cases e
    · cases e
  · cases e
end
/-! ### sorted pairs -/
section
variable {prog : Program} {w : World} {A : Around} {E : Value → Shared → Prop} {s : Shared}
theorem lex_app {m : Nat} {x y : Int} : ∀ {k l : List Int}, k.length = l.length → HT.lexLt (k ++ [x]) (l ++ [y]) = if k = l then decide (x < y) else HT.lexLt k l
  | [], [], _ => by
    rw [if_pos rfl]
    show HT.lexLt (x :: []) (y :: []) = _
    rw [HT.lexLt_cons]
    by_cases e : x = y
    · rw [if_pos e, e]
      simp [HT.lexLt]
    · rw [if_neg e]
  | [], _ :: _, h => by cases h
  | _ :: _, [], h => by cases h
  | a :: k, b :: l, h => by
    show HT.lexLt (a :: (k ++ [x])) (b :: (l ++ [y])) = _
    rw [HT.lexLt_cons]
    by_cases e : a = b
    · rw [if_pos e, lex_app (m := m) (k := k) (l := l) (by simpa using h), e]
      by_cases e2 : k = l
      · rw [if_pos e2, if_pos (by rw [e2])]
      · rw [if_neg e2, if_neg (fun z => e2 (List.cons.inj z).2), HT.lexLt_cons, if_pos rfl]
    · rw [if_neg e, if_neg (fun z => e (List.cons.inj z).1), HT.lexLt_cons, if_neg e]
/-- a pair (tuple of m ints, int) -/
structure PairIs (h : Heap) (m : Nat) (k : Value → List Int) (v : Value) : Prop where
  ex : ∃ a b its n x t, v = .ref a ∧ IsTup h a #[.ref b, .int x t] ∧ IsTup h b its ∧ IntsAre its.toList n ∧ n.length = m ∧ k v = n ++ [x]
theorem PairIs.keep {h h' : Heap} {m : Nat} {k : Value → List Int} {v : Value} (p : PairIs h m k v) (kp : ∀ b its, IsTup h b its → IsTup h' b its) : PairIs h' m k v := by
  obtain ⟨a, b, its, n, x, t, e, h1, h2, q⟩ := p.ex
  exact ⟨a, b, its, n, x, t, e, kp _ _ h1, kp _ _ h2, q⟩
theorem pairs_kat {h : Heap} {m : Nat} {k : Value → List Int} : ∀ {vs : List Value}, (∀ v ∈ vs, PairIs h m k v) → ∃ fs, PySem.W.KatTups h vs fs ∧ fs.length = vs.length ∧ ∀ f ∈ fs, ∃ b its, f = .ref b ∧ IsTup h b its
  | [], _ => ⟨[], PySem.W.KatTups.nil, rfl, fun f m => nomatch m⟩
  | v :: vs, hp => by
    obtain ⟨fs, h1, h2, h3⟩ := pairs_kat (vs := vs) fun q hq => hp q (List.mem_cons_of_mem _ hq)
    obtain ⟨a, b, its, n, x, t, rfl, ⟨o, ho, hc, j, hd⟩, h4, _⟩ := (hp v List.mem_cons_self).ex
    refine ⟨.ref b :: fs, PySem.W.KatTups.cons ho hc hd rfl h1, by rw [List.length_cons, List.length_cons, h2], fun f hf => ?_⟩
    rcases List.mem_cons.mp hf with rfl | hf
    · exact ⟨b, its, rfl, h4⟩
    · exact h3 f hf
theorem eq_tups {b c : Addr} {its itc : Array Value} {n l : List Int} (h1 : IsTup s.heap b its) (h2 : IsTup s.heap c itc) (i1 : IntsAre its.toList n) (i2 : IntsAre itc.toList l) (hu : A.units + 64 < cLine) : SeqAt.EqAt A s (.ref b) (.ref c) (decide (n = l)) := by
  have r1 := reads_tuple_ints (vr := its.toList) (by simpa using h1) i1
  have r2 := reads_tuple_ints (vr := itc.toList) (by simpa using h2) i2
  have sh : ∀ ns : List Int, SeqAt.shaped (.tuple (ns.map PyData.int)) = true := fun ns => PySem.W.shaped_ints ns
  have x := SeqAt.eqAt_reads _ _ A s _ _ _ _ r1 r2 (SeqAt.canLay_of_shaped (sh n)) (SeqAt.canLay_of_shaped (sh l)) (SeqAt.room_of_shaped (sh n) hu)
  have e : PyData.eqv (.tuple (n.map PyData.int)) (.tuple (l.map PyData.int)) = decide (n = l) := by
    rw [← SeqAt.same_eq_eqv _ _ (by simp only [SeqAt.noMix]; exact PySem.W.noMix_ints n l)]
    simp only [PySem.Spec.same]
    exact PySem.W.same_ints n l
  rw [e] at x
  exact x
theorem sorted_pairs {l : Addr} {vs : List Value} {k : Value → List Int} {m : Nat} {Q : Value → Shared → Prop} (hl : s.heap.IsList l vs.toArray) (hz : vs.length ≤ sizeLine) (hp : ∀ v ∈ vs, PairIs s.heap m k v) (hu : A.units + 80 < cLine)
    (h : ∀ (h' : Heap) (d : Addr) (out : List Value), SrtO.Srtd (fun v u => HT.lexLt (k v) (k u)) out → out.Perm vs → (∀ b o, s.heap.get? b = some o → h'.get? b = some o) → s.heap.objs.size ≤ d → (∃ n, h'.get? d = some (seqObj "list" out.toArray n)) → Q (.ref d) { s with heap := h' }) :
    wpAny (model prog w) A (call (.builtin "sorted") [.ref l]) Q E s := by
  refine SrtO.sorted_ord (swo_tups k) hl hz (fun h2 h₁ a ha kk => ?_) fun out hs hb => ?_
  · intro h' keep
    have ne : ∀ b its, IsTup s.heap b its → IsTup h' b its := fun b its ⟨o, ho, hc, r⟩ => ⟨o, keep b o (kk b o ho).1 (kk b o ho).2, hc, r⟩
    have hp' : ∀ v ∈ vs, PairIs h' m k v := fun v hv => (hp v hv).keep ne
    obtain ⟨fs, f1, f2, f3⟩ := pairs_kat hp'
    refine ⟨tuples' false, fun Q E hq => ?_, ?_⟩
    · refine PySem.W.kat_kind (s := { s with heap := h' }) (T := .type "tuple") f1 (by omega) (fun f hf => ?_) (by rfl) ?_
      · obtain ⟨b, its, rfl, o, ho, hc, _⟩ := f3 f hf
        exact hc ▸ (PySem.W.Looks.ld ho).andThen .now
      · have e : (Value.type "tuple" != Value.type "tuple") = false := by first | rfl | decide +kernel | decide
        rw [e]
        exact hq
    · intro p q hm hm'
      obtain ⟨a1, b1, its1, n1, x1, t1, e1, g1, g2, i1, l1, k1⟩ := (hp' _ hm).ex
      obtain ⟨a2, b2, its2, n2, x2, t2, e2, g3, g4, i2, l2, k2⟩ := (hp' _ hm').ex
      obtain ⟨o, ho, hc, j, hd⟩ := g1
      obtain ⟨o', ho', hc', j', hd'⟩ := g3
      show wpAny (model prog w) A.in1.in1 (keyLt' (tuples' false) p.1 q.1) (fun r s' => s' = { s with heap := h' } ∧ r = HT.lexLt (k p.1) (k q.1)) (fun _ _ => False) _
      rw [k1, k2, lex_app (m := m) (by omega), e1, e2]
      refine PySem.W.kat_lt (s := { s with heap := h' }) ho hd ho' hd' ?_
      show PySem.W.KatLex prog w A.in1.in1 false _ _ [(.ref b1, .ref b2), (.int x1 t1, .int x2 t2)] 0 _
      refine PySem.W.kat_cons (eq_tups (A := A.in1.in1) (s := { s with heap := h' }) g2 g4 i1 i2 (by show A.units + 1 + 1 + 64 < cLine; omega) prog w _ _ ?_)
      refine PySem.W.kat_go (fun z => ?_) (fun z => ?_)
      · have ex : n1 = n2 := of_decide_eq_true z
        rw [if_pos ex]
        refine PySem.W.kat_yes (PySem.W.kat_cons (SeqAt.EqAt.int_int x1 t1 x2 t2 prog w _ _ ?_))
        refine PySem.W.kat_go (fun z => ?_) (fun z => ?_)
        · have ey : x1 = x2 := by simpa using z
          refine PySem.W.kat_yes (PySem.W.kat_nil ⟨rfl, ?_⟩)
          rw [ey]
          simp
        · exact PySem.W.kat_no (kat_ints ⟨rfl, rfl⟩)
      · have ex : ¬ n1 = n2 := of_decide_eq_false z
        rw [if_neg ex]
        refine PySem.W.kat_no (PySem.W.kat_one _ _ ?_)
        exact rc_lt_tups (A := A.in1.in1) (s := { s with heap := h' }) g2 g4 i1 i2 (by show A.units + 1 + 1 < cLine; omega) prog w _ _ ⟨rfl, rfl⟩
  · exact h _ _ out hs hb.perm (fun b o e => sortedAll_old e) (Nat.le_succ _) (sortedAll_at s.heap vs out.toArray)
end
/-- pairs: the key k ++ [x] -/
def prsI : List D → Option (List (List Int))
  | [] => some []
  | .tup [.tup ds, .int x] :: r => match intsOf ds, prsI r with
    | some k, some l => some ((k ++ [x]) :: l)
    | _, _ => none
  | _ :: _ => none
def pairD (l : List Int) : D := .tup [.tup (l.dropLast.map .int), .int (l.getLastD 0)]
def sortPD (mu : Mu) : List D → Option D
  | [x] => match lstOf mu x with
    | some ds => match prsI ds with
      | some l => if l.length ≤ 10000 ∧ l.all (fun k => decide (k.length = (l.headD []).length)) = true then some (.lst ((srtT l).map pairD)) else none
      | none => none
    | none => none
  | _ => none
def PairAt (K : PySem.W.Frag) (H : Hp) (m : Nat) (p : Addr × List Int) : Prop := ∃ b n x, p.2 = n ++ [x] ∧ n.length = m ∧ SqT K H p.1 [.ref b, .int x] ∧ SqT K H b (n.map V.int)
def rSortP (K : PySem.W.Frag) : List V → Hp → VK → Prop := fun vs H Q => ∃ (a : Addr) (ps : List (Addr × List Int)) (m : Nat), vs = [V.ref a] ∧ H a = some (.lst (ps.map fun p => V.ref p.1)) ∧ ps.length ≤ 100000 ∧ (∀ p ∈ ps, PairAt K H m p) ∧
  ∀ (p : Addr) (qs : List (Addr × List Int)), H p = none → qs.Perm ps → (qs.map (·.2)).Pairwise LeT → Q (.ref p) (upd H p (.lst (qs.map fun p => V.ref p.1)))
section
variable {X : Cx} {g : Gam}
theorem cr_sortP (hu : X.A.units + 80 < cLine) : CallR X (.builtin "sorted") (rSortP X.K) := by
  intro pins s σ H vs us Q I r h
  obtain ⟨a, ps, m, rfl, hH, hlen, hsq, q⟩ := h
  rw [Vals.ref1 r]
  obtain ⟨its, rv, hl, hz⟩ := I.list (xs := ps.map fun p => V.ref p.1) (SqL.of hH)
  have ei : its = (ps.map (·.1)).map Value.ref := vals_refs (by rw [List.map_map]; exact rv)
  have hk : ∀ p ∈ ps, keyAt ps (.ref p.1) = p.2 := fun p hp => by
    show ((ps.find? fun x => x.1 == p.1).map (·.2)).getD [] = p.2
    cases hf : ps.find? fun x => x.1 == p.1 with
    | none =>
      have := List.find?_eq_none.mp hf p hp
      simp at this
    | some p' =>
      have h1 := List.mem_of_find?_eq_some hf
      have h2 := List.find?_some hf
      have h2 : p'.1 = p.1 := by simpa using h2
      obtain ⟨b, n, x, e1, e2, e3, e4⟩ := hsq p' h1
      obtain ⟨b', n', x', e1', e2', e3', e4'⟩ := hsq p hp
      rw [h2] at e3
      have e5 := I.tuple_inj e3 e3'
      injection e5 with e6 e7
      injection e6 with e6
      injection e7 with e7
      injection e7 with e7
      subst e6 e7
      have e8 := int_inj (I.tuple_inj e4 e4')
      show p'.2 = p.2
      rw [e1, e1', e8]
  have hv : ∀ v ∈ its, ∃ p ∈ ps, v = .ref p.1 := fun v hv => by
    rw [ei, List.map_map] at hv
    obtain ⟨p, hp, rfl⟩ := List.mem_map.mp hv
    exact ⟨p, hp, rfl⟩
  refine sorted_pairs (k := keyAt ps) (m := m) hl.isList (by rw [← rv.length]; exact hz) (fun v hv' => ?_) hu fun h' d out hs hp keep hd hg => ?_
  · obtain ⟨p, hp, rfl⟩ := hv v hv'
    obtain ⟨b, n, x, e1, e2, e3, e4⟩ := hsq p hp
    obtain ⟨ts, rt, ht, _⟩ := I.tuple e3
    obtain ⟨us, ru, hu', _⟩ := I.tuple e4
    cases rt with
    | cons r1 rt =>
      cases rt with
      | cons r2 rt =>
        cases rt
        cases r1
        obtain ⟨t, rfl⟩ := r2
        exact ⟨p.1, b, us.toArray, n, x, t, rfl, ht, hu', intsAre_of ru, e2, by rw [hk p hp]; exact e1⟩
  · let ad : Value → Addr × List Int := fun v => (match v with | .ref b => b | _ => 0, keyAt ps v)
    have h1 : its.map ad = ps := by
      rw [ei, List.map_map, List.map_map]
      conv => rhs; rw [← List.map_id ps]
      apply List.map_congr_left
      intro p hp
      show (p.1, keyAt ps (.ref p.1)) = p
      rw [hk p hp]
    have h2 : (out.map ad).Perm ps := by rw [← h1]; exact hp.map ad
    have h3 : (out.map ad).map (fun p => Value.ref p.1) = out := by
      rw [List.map_map]
      conv => rhs; rw [← List.map_id out]
      apply List.map_congr_left
      intro v hv'
      obtain ⟨p, _, rfl⟩ := hv v (hp.mem_iff.mp hv')
      rfl
    have h4 : ((out.map ad).map (·.2)).Pairwise LeT := by
      rw [List.map_map, List.pairwise_map]
      exact hs
    obtain ⟨n, hg⟩ := hg
    have hz2 : ((out.map ad).map fun p => V.ref p.1).length ≤ sizeLine := by
      rw [List.length_map, h2.length_eq]
      rw [sizeLine_eq]
      omega
    have hvs : Vals ((out.map ad).map fun p => V.ref p.1) out := by
      have := refs_vals ((out.map ad).map (·.1))
      rw [List.map_map] at this
      have e5 : ((out.map ad).map (·.1)).map Value.ref = out := by rw [List.map_map]; exact h3
      rw [e5] at this
      exact this
    exact ⟨.ref d, _, I.laid (t' := s.toks) (o := .lst ((out.map ad).map fun p => V.ref p.1)) keep hd ⟨hz2, out, n, hvs, hg⟩, rfl, q d (out.map ad) (I.hok.fresh hd) h2 h4⟩
theorem prsI_eq {th : Th} {mu : Mu} {H : Hp} {m : Nat} : ∀ {ds : List D} {ls : List (List Int)} {vs : List V}, RpL g th (Gz th mu H) ds vs → prsI ds = some ls → (∀ k ∈ ls, k.length = m + 1) →
    ∃ ps : List (Addr × List Int), vs = ps.map (fun p => V.ref p.1) ∧ ps.map (·.2) = ls ∧ ∀ p ∈ ps, PairAt g.K H m p ∧ Rp g th (Gz th mu H) (pairD p.2) (.ref p.1) := by
  intro ds
  induction ds with
  | nil =>
    intro ls vs h e _
    cases (Option.some.inj e)
    exact ⟨[], h, rfl, by simp⟩
  | cons d r ih =>
    intro ls vs h e hm
    unfold prsI at e
    split at e
    · rename_i h0; cases h0
    · rename_i ds x r' h0
      cases h0
      split at e
      · rename_i k l hk hl
        cases (Option.some.inj e)
        obtain ⟨v, t, rfl, h1, h2⟩ := h
        obtain ⟨ps, e1, e2, e3⟩ := ih h2 hl fun q hq => hm q (List.mem_cons_of_mem _ hq)
        obtain ⟨a, xs, rfl, s1, r1, _⟩ := sqT_of h1
        obtain ⟨v1, v2, rfl, q1, q2⟩ : ∃ v1 v2, xs = [v1, v2] ∧ Rp g th (Gz th mu H) (.tup ds) v1 ∧ v2 = .int x := by
          obtain ⟨v1, t1, rfl, z1, v2, t2, rfl, z2, rfl⟩ := r1
          exact ⟨v1, v2, rfl, z1, z2⟩
        subst q2
        obtain ⟨b, ys, rfl, s2, r2, _⟩ := sqT_of q1
        have ex := intsOf_eq r2 hk
        have ed : ds = k.map D.int := intsOf_map hk
        have kl := hm _ List.mem_cons_self
        rw [List.length_append] at kl
        refine ⟨(a, k ++ [x]) :: ps, by rw [e1]; rfl, by rw [List.map_cons, e2], fun p hp => ?_⟩
        rcases List.mem_cons.mp hp with rfl | hp
        · refine ⟨⟨b, k, x, rfl, by simpa using kl, s1, by rw [← ex]; exact s2⟩, ?_⟩
          show Rp g th (Gz th mu H) (.tup [.tup ((k ++ [x]).dropLast.map .int), .int ((k ++ [x]).getLastD 0)]) (.ref a)
          rw [List.dropLast_concat, List.getLastD_concat, ← ed]
          exact h1
        · exact e3 p hp
      · cases e
    · cases e
theorem cm_sortP (hK : X.K = g.K) (hu : X.A.units + 80 < cLine) : CallM X g (.builtin "sorted") (pureF sortPD) := by
  refine .mk' (cr_sortP hu) fun th mu H ds vs d o hd e Q q => ?_
  rw [hK]
  unfold sortPD at e
  split at e
  · rename_i x
    split at e
    · rename_i r hx
      split at e
      · rename_i ls ht
        split at e
        · rename_i hl
          cases (Option.some.inj e)
          obtain ⟨v, rfl, hv⟩ := rpL1 hd
          obtain ⟨a, xs, rfl, s1, r1⟩ := lst_at o hv hx
          have hm : ∀ k ∈ ls, k.length = ((ls.headD []).length - 1) + 1 := fun k hk => by
            have := of_decide_eq_true (List.all_eq_true.mp hl.2 k hk)
            have pos : 0 < k.length := by
              clear this hl e hx r1 s1 q
              revert k
              have : ∀ (r : List D) (ls : List (List Int)), prsI r = some ls → ∀ k ∈ ls, 0 < k.length := by
                intro r
                induction r with
                | nil => intro ls e k hk; cases (Option.some.inj e); cases hk
                | cons d r ih =>
                  intro ls e k hk
                  unfold prsI at e
                  split at e
                  · rename_i h0; cases h0
                  · rename_i h0
                    cases h0
                    split at e
                    · rename_i h5 h6
                      cases (Option.some.inj e)
                      rcases List.mem_cons.mp hk with rfl | hk
                      · simp
                      · exact ih _ h6 k hk
                    · cases e
                  · cases e
              exact this r ls ht
            omega
          obtain ⟨ps, e1, e2, e3⟩ := prsI_eq r1 ht hm
          subst e1
          have hlen : ps.length = ls.length := by rw [← e2, List.length_map]
          refine ⟨a, ps, _, rfl, s1, by omega, fun p hp => (e3 p hp).1, fun p qs hp hq hs => q _ _ (Evl.Ex.new hp) (rp_newLst o hp ?_)⟩
          have e5 : qs.map (·.2) = srtT ls := pwT_unique ((hq.map _).trans (by rw [e2]; exact (srtT_perm ls).symm)) hs (srtT_pw ls)
          rw [← e5]
          have all : ∀ p ∈ qs, Rp g th (Gz th mu H) (pairD p.2) (.ref p.1) := fun p hp => (e3 p (hq.mem_iff.mp hp)).2
          clear e5 hs hq
          induction qs with
          | nil => rfl
          | cons p qs ih => exact ⟨.ref p.1, _, rfl, all p List.mem_cons_self, ih fun p hp => all p (List.mem_cons_of_mem _ hp)⟩
        · cases e
      · cases e
    · cases e
  · cases e
end
/-- two names as a comprehension's target -/
theorem tgLc_two {g : Gam} {K : PySem.W.Frag} (hK : K = g.K) {own : List Nat} {j k : Nat} (hj : j ∈ own) (hk : k ∈ own) : TgLc g own (gTup K 2 (gCons (gName j) (gCons (gName k) gNil))) (tTp 2 (tsCons (tNm j) (tsCons (tNm k) tsNil))) := fun rh mu th d v σ H rh' r hd e Q q => by
  unfold tTp at e
  split at e
  · rename_i ds
    split at e
    · rename_i hl
      obtain ⟨a, xs, rfl, s1, r1, _⟩ := sqT_of hd
      match ds, hl, e, r1 with
      | [d1, d2], _, e, r1 =>
        obtain ⟨v1, t1, rfl, z1, v2, t2, rfl, z2, rfl⟩ := r1
        have e' : (rh.set j (some d1)).set k (some d2) = rh' := Option.some.inj e
        subst e'
        refine ⟨a, [v1, v2], rfl, by rw [hK]; exact s1, rfl, v1, [v2], rfl, v2, [], rfl, rfl, q _ ((r.set j z1).set k z2) ?_⟩
        rw [wipe_set hk, wipe_set hj]
    · cases e
  · cases e
end Eb

/-! Eb: what the defs compute. Printed by gen.py. -/
namespace Eb
open PySem
/-- taken(row, many); slots: row many cell -/
def m_lw_taken : Phi := mBody 2 3 (sSeq (sPut (mVar 0) (mC (.int 1)) (mOp addD (mOp ixD (mVar 0) (mC (.int 1))) (mC (.int 1)))) (sSeq (sIf (mTest (mOp gtD (mOp ixD (mVar 0) (mC (.int 1))) (mCB (pureF lenD) (mCons (mOp ixD (mVar 0) (mC (.int 0))) (mNil))))) (sSeq (sPut (mVar 0) (mC (.int 2)) (mOp modD (mOp addD (mOp mulD (mOp ixD (mVar 0) (mC (.int 2))) (mC (.int 48271))) (mC (.int 11))) (mC (.int 2147483647)))) (sRet (mOp modD (mOp fdivD (mOp ixD (mVar 0) (mC (.int 2))) (mC (.int 7))) (mVar 1)))) (sSkip)) (sSeq (sAsg (mOp ixD (mOp ixD (mVar 0) (mC (.int 0))) (mOp subD (mOp ixD (mVar 0) (mC (.int 1))) (mC (.int 1)))) (tNm 2)) (sSeq (sPut (mVar 0) (mC (.int 2)) (mOp modD (mOp addD (mOp addD (mOp mulD (mOp ixD (mVar 0) (mC (.int 2))) (mC (.int 48271))) (mVar 2)) (mC (.int 11))) (mC (.int 2147483647)))) (sRet (mOp modD (mVar 2) (mVar 1)))))))
/-- names(row); slots: row turn shift signs base k -/
def m_lw_names : Phi := mBody 1 6 (sSeq (sAsg (mCall m_lw_taken (mCons (mVar 0) (mCons (mC (.int 26)) (mNil)))) (tNm 1)) (sSeq (sAsg (mCall m_lw_taken (mCons (mVar 0) (mCons (mC (.int 8)) (mNil)))) (tNm 2)) (sSeq (sAsg (mLc [5] (mRng1 (mCons (mC (.int 11)) (mNil))) (tNm 5) (mYes) (mOp ixD (mC (.str "abcdefghijklmnopqrstuvwxyz")) (mOp modD (mOp addD (mVar 1) (mOp mulD (mC (.int 5)) (mVar 5))) (mC (.int 26))))) (tNm 3)) (sSeq (sAsg (mBM isStr joinF (mC (.str "")) (mCons (mSl (mVar 3) (mPart (mC (.int 4))) (mNoP)) (mNil))) (tNm 4)) (sRet (mLc [5] (mRng1 (mCons (mC (.int 4)) (mNil))) (tNm 5) (mYes) (mOp addD (mSl (mVar 4) (mNoP) (mPart (mOp modD (mOp addD (mVar 2) (mOp mulD (mC (.int 3)) (mVar 5))) (mC (.int 8))))) (mOp ixD (mVar 3) (mVar 5)))))))))
/-- person(row, name, zones); slots: row name zones free_here led zone way most since goal -/
def m_lw_person : Phi := mBody 3 10 (sSeq (sAsg (mLstC (mNil)) (tNm 3)) (sSeq (sAsg (mLstC (mNil)) (tNm 4)) (sSeq (sFor (mRng2 (mCons (mC (.int 1)) (mCons (mVar 2) (mNil)))) (tNm 5) (sSeq (sAsg (mCall m_lw_taken (mCons (mVar 0) (mCons (mC (.int 5)) (mNil)))) (tNm 6)) (sIf (mTest (mOp ltD (mVar 6) (mC (.int 2)))) (sDrop (mBM isCell appF (mVar 3) (mCons (mVar 5) (mNil)))) (sIf (mTest (mOp ltD (mVar 6) (mC (.int 4)))) (sDrop (mBM isCell appF (mVar 4) (mCons (mVar 5) (mNil)))) (sSkip))))) (sSeq (sFrz 3) (sSeq (sFrz 4) (sSeq (sAsg (mOp ixD (mLst (mCons (mC (.int 0)) (mCons (mC (.int 0)) (mCons (mC (.int 1)) (mCons (mC (.int 2)) (mCons (mCall m_lw_taken (mCons (mVar 0) (mCons (mC (.int 5)) (mNil)))) (mNil))))))) (mCall m_lw_taken (mCons (mVar 0) (mCons (mC (.int 5)) (mNil))))) (tNm 7)) (sSeq (sAsg (mOp ixD (mLst (mCons (mC (.int 0)) (mCons (mC (.int 0)) (mCons (mC (.int 0)) (mCons (mCall m_lw_taken (mCons (mVar 0) (mCons (mC (.int 9)) (mNil)))) (mNil)))))) (mCall m_lw_taken (mCons (mVar 0) (mCons (mC (.int 4)) (mNil))))) (tNm 8)) (sSeq (sAsg (mOp ixD (mLst (mCons (mOp subD (mVar 2) (mC (.int 1))) (mCons (mOp subD (mVar 2) (mC (.int 1))) (mCons (mOp subD (mCall m_lw_taken (mCons (mVar 0) (mCons (mOp addD (mVar 2) (mC (.int 1))) (mNil)))) (mC (.int 1))) (mNil))))) (mCall m_lw_taken (mCons (mVar 0) (mCons (mC (.int 3)) (mNil))))) (tNm 9)) (sRet (mTup (mCons (mVar 1) (mCons (mC (.int 0)) (mCons (mVar 9) (mCons (mVar 7) (mCons (mVar 8) (mCons (mCB (pureF tupleD) (mCons (mVar 3) (mNil))) (mCons (mCB (pureF tupleD) (mCons (mVar 4) (mNil))) (mNil))))))))))))))))))
/-- free(house_here, person_here, zone); slots: house_here person_here zone -/
def m_lw_free : Phi := mBody 3 3 (sRet (mOrV (mOp eqD (mVar 2) (mC (.int 0))) (mOp inD (mVar 2) (mOp ixD (mOp ixD (mOp ixD (mVar 0) (mC (.int 3))) (mVar 1)) (mC (.int 5))))))
/-- left(house_here, state); slots: house_here state person_here zone here bound hands k -/
def m_lw_left : Phi := mBody 2 8 (sSeq (sFor (mRng1 (mCons (mCB (pureF lenD) (mCons (mVar 1) (mNil))) (mNil))) (tNm 2) (sSeq (sAsg (mOp ixD (mVar 1) (mVar 2)) (tNm 3)) (sIf (mNot (mTest (mCall (mPure m_lw_free) (mCons (mVar 0) (mCons (mVar 2) (mCons (mVar 3) (mNil))))))) (sSeq (sAsg (mLc [7] (mRng1 (mCons (mCB (pureF lenD) (mCons (mVar 1) (mNil))) (mNil))) (tNm 7) (mTest (mOp eqD (mOp ixD (mVar 1) (mVar 7)) (mVar 3))) (mVar 7)) (tNm 4)) (sSeq (sAsg (mLc [7] (mItems (mVar 4)) (tNm 7) (mNot (mTest (mCall (mPure m_lw_free) (mCons (mVar 0) (mCons (mVar 7) (mCons (mVar 3) (mNil))))))) (mVar 7)) (tNm 5)) (sSeq (sAsg (mCB (pureF sumD) (mCons (mLc [7] (mItems (mVar 4)) (tNm 7) (mTest (mOp notinD (mVar 7) (mVar 5))) (mOp ixD (mOp ixD (mOp ixD (mVar 0) (mC (.int 3))) (mVar 7)) (mC (.int 3)))) (mNil))) (tNm 6)) (sIf (mOr (mTest (mOp notinD (mVar 3) (mOp ixD (mOp ixD (mOp ixD (mVar 0) (mC (.int 3))) (mVar 2)) (mC (.int 6))))) (mTest (mOp gtD (mCB (pureF lenD) (mCons (mVar 5) (mNil))) (mVar 6)))) (sRet (mVar 2)) (sSkip))))) (sSkip)))) (sRet (mC .non)))
/-- house(row); slots: row zones doors k one other opens shuts names_here many people hours house_here state person_here -/
def m_lw_house : Phi := mBody 1 15 (sSeq (sAsg (mOp ixD (mLst (mCons (mC (.int 2)) (mCons (mC (.int 3)) (mCons (mC (.int 3)) (mCons (mC (.int 4)) (mCons (mC (.int 1)) (mNil))))))) (mCall m_lw_taken (mCons (mVar 0) (mCons (mC (.int 5)) (mNil))))) (tNm 1)) (sSeq (sAsg (mLstC (mNil)) (tNm 2)) (sSeq (sFor (mRng1 (mCons (mOp mulD (mCall m_lw_taken (mCons (mVar 0) (mCons (mOp ixD (mLst (mCons (mC (.int 5)) (mCons (mC (.int 7)) (mNil)))) (mCall m_lw_taken (mCons (mVar 0) (mCons (mC (.int 2)) (mNil))))) (mNil)))) (mCB (pureF intD) (mCons (mOp gtD (mVar 1) (mC (.int 1))) (mNil)))) (mNil))) (tNm 3) (sSeq (sAsg (mCall m_lw_taken (mCons (mVar 0) (mCons (mOp subD (mVar 1) (mC (.int 1))) (mNil)))) (tNm 4)) (sSeq (sAsg (mOp addD (mOp addD (mVar 4) (mC (.int 1))) (mCall m_lw_taken (mCons (mVar 0) (mCons (mOp subD (mOp subD (mVar 1) (mC (.int 1))) (mVar 4)) (mNil))))) (tNm 5)) (sSeq (sAsg (mOp ixD (mLst (mCons (mC (.int 0)) (mCons (mC (.int 0)) (mCons (mCall m_lw_taken (mCons (mVar 0) (mCons (mC (.int 8)) (mNil)))) (mNil))))) (mCall m_lw_taken (mCons (mVar 0) (mCons (mC (.int 3)) (mNil))))) (tNm 6)) (sSeq (sAsg (mOp ixD (mLst (mCons (mC (.int 8)) (mCons (mOp addD (mOp addD (mVar 6) (mC (.int 1))) (mCall m_lw_taken (mCons (mVar 0) (mCons (mOp subD (mC (.int 8)) (mVar 6)) (mNil))))) (mNil)))) (mCall m_lw_taken (mCons (mVar 0) (mCons (mC (.int 2)) (mNil))))) (tNm 7)) (sDrop (mBM isCell appF (mVar 2) (mCons (mTup (mCons (mVar 4) (mCons (mVar 5) (mCons (mOp ixD (mLst (mCons (mC (.int 1)) (mCons (mC (.int 2)) (mCons (mC (.int 2)) (mCons (mC (.int 3)) (mCons (mC (.int 4)) (mNil))))))) (mCall m_lw_taken (mCons (mVar 0) (mCons (mC (.int 5)) (mNil))))) (mCons (mVar 6) (mCons (mVar 7) (mNil))))))) (mNil))))))))) (sSeq (sFrz 2) (sSeq (sAsg (mCall (mRow m_lw_names) (mCons (mVar 0) (mNil))) (tNm 8)) (sSeq (sAsg (mOp addD (mC (.int 1)) (mCall m_lw_taken (mCons (mVar 0) (mCons (mC (.int 4)) (mNil))))) (tNm 9)) (sSeq (sAsg (mLc [3] (mRng1 (mCons (mVar 9) (mNil))) (tNm 3) (mYes) (mCall (mRow m_lw_person) (mCons (mVar 0) (mCons (mOp ixD (mVar 8) (mVar 3)) (mCons (mVar 1) (mNil)))))) (tNm 10)) (sSeq (sAsg (mCall m_lw_taken (mCons (mVar 0) (mCons (mOp subD (mOp ixD (mLst (mCons (mC (.int 9)) (mCons (mC (.int 6)) (mCons (mC (.int 6)) (mCons (mC (.int 4)) (mNil)))))) (mOp subD (mVar 9) (mC (.int 1)))) (mCB (pureF intD) (mCons (mOp eqD (mVar 1) (mC (.int 4))) (mNil)))) (mNil)))) (tNm 11)) (sSeq (sIf (mAnd (mTest (mOp ltD (mCB (pureF lenD) (mCons (mVar 2) (mNil))) (mC (.int 3)))) (mTest (mOp eqD (mCall m_lw_taken (mCons (mVar 0) (mCons (mC (.int 4)) (mNil)))) (mC (.int 3))))) (sAsg (mOp addD (mC (.int 5)) (mCall m_lw_taken (mCons (mVar 0) (mCons (mC (.int 4)) (mNil))))) (tNm 11)) (sSkip)) (sSeq (sAsg (mTup (mCons (mVar 1) (mCons (mVar 11) (mCons (mVar 2) (mCons (mVar 10) (mNil)))))) (tNm 12)) (sSeq (sAsg (mCB (pureF tupleD) (mCons (mLc [14] (mItems (mVar 10)) (tNm 14) (mYes) (mCall m_lw_taken (mCons (mVar 0) (mCons (mVar 1) (mNil))))) (mNil))) (tNm 13)) (sSeq (sIf (mAnd (mTest (mOp eqD (mCall m_lw_taken (mCons (mVar 0) (mCons (mC (.int 3)) (mNil)))) (mC (.int 0)))) (mTest (mOp isD (mCall (mPure m_lw_left) (mCons (mVar 12) (mCons (mVar 13) (mNil)))) (mC .non)))) (sAsg (mLc [3] (mRng1 (mCons (mVar 9) (mNil))) (tNm 3) (mYes) (mOp addD (mOp addD (mSl (mOp ixD (mVar 10) (mVar 3)) (mNoP) (mPart (mC (.int 1)))) (mTup (mCons (mOp ixD (mVar 13) (mVar 3)) (mNil)))) (mSl (mOp ixD (mVar 10) (mVar 3)) (mPart (mC (.int 2))) (mNoP)))) (tNm 10)) (sSkip)) (sRet (mTup (mCons (mVar 1) (mCons (mVar 11) (mCons (mVar 2) (mCons (mVar 10) (mNil)))))))))))))))))))
/-- must(good, word, number); slots: good word number -/
def m_must : Phi := mBody 3 3 (sIf (mNot (mTest (mVar 0))) (sRaise 2 2 (mCons (mVar 1) (mCons (mVar 2) (mNil)))) (sSkip))
/-- is_free(house, person, zone); slots: house person zone -/
def m_is_free : Phi := mBody 3 3 (sRet (mOrV (mOp eqD (mVar 2) (mC (.int 0))) (mOp inD (mVar 2) (mOp ixD (mOp ixD (mFld 0 3 (mVar 0)) (mVar 1)) (mC (.int 5))))))
/-- may_be(house, person, zone); slots: house person zone -/
def m_may_be : Phi := mBody 3 3 (sRet (mOrV (mCall m_is_free (mCons (mVar 0) (mCons (mVar 1) (mCons (mVar 2) (mNil))))) (mOp inD (mVar 2) (mOp ixD (mOp ixD (mFld 0 3 (mVar 0)) (mVar 1)) (mC (.int 6))))))
/-- led_ones(house, persons, zones); slots: house persons zones person zone -/
def m_led_ones : Phi := mBody 3 5 (sRet (mLc [3] (mItems (mVar 1)) (tNm 3) (mTest (mOp neD (mLc [4] (mItems (mVar 2)) (tNm 4) (mNot (mTest (mCall m_is_free (mCons (mVar 0) (mCons (mVar 3) (mCons (mVar 4) (mNil))))))) (mVar 4)) (mLst (mNil)))) (mVar 3)))
/-- can_lead(house, persons, zones); slots: house persons zones leaders person -/
def m_can_lead_01 : Phi := mBody 3 5 (sSeq (sAsg (mLc [4] (mItems (mVar 1)) (tNm 4) (mTest (mOp notinD (mVar 4) (mCall m_led_ones (mCons (mVar 0) (mCons (mVar 1) (mCons (mVar 2) (mNil))))))) (mVar 4)) (tNm 3)) (sRet (mCB (pureF sumD) (mCons (mLc [4] (mItems (mVar 3)) (tNm 4) (mYes) (mOp ixD (mOp ixD (mFld 0 3 (mVar 0)) (mVar 4)) (mC (.int 3)))) (mNil)))))
/-- left_one(house, state); slots: house state person zone here other -/
def m_left_one_01 : Phi := mBody 2 6 (sSeq (sFor (mRng1 (mCons (mCB (pureF lenD) (mCons (mVar 1) (mNil))) (mNil))) (tNm 2) (sSeq (sAsg (mOp ixD (mVar 1) (mVar 2)) (tNm 3)) (sSeq (sIf (mNot (mTest (mCall m_may_be (mCons (mVar 0) (mCons (mVar 2) (mCons (mVar 3) (mNil))))))) (sRet (mVar 2)) (sSkip)) (sSeq (sAsg (mLc [5] (mRng1 (mCons (mCB (pureF lenD) (mCons (mVar 1) (mNil))) (mNil))) (tNm 5) (mTest (mOp eqD (mOp ixD (mVar 1) (mVar 5)) (mVar 3))) (mVar 5)) (tNm 4)) (sIf (mAnd (mNot (mTest (mCall m_is_free (mCons (mVar 0) (mCons (mVar 2) (mCons (mVar 3) (mNil))))))) (mTest (mOp gtD (mCB (pureF lenD) (mCons (mCall m_led_ones (mCons (mVar 0) (mCons (mVar 4) (mCons (mLst (mCons (mVar 3) (mNil))) (mNil))))) (mNil))) (mCall m_can_lead_01 (mCons (mVar 0) (mCons (mVar 4) (mCons (mLst (mCons (mVar 3) (mNil))) (mNil)))))))) (sRet (mVar 2)) (sSkip)))))) (sRet (mC .non)))
/-- House.is_door(self, door); slots: self door one other wide opens shuts -/
def m_House_is_door : Phi := mBody 2 7 (sSeq (sAsg (mVar 1) (tTp 5 (tsCons (tNm 2) (tsCons (tNm 3) (tsCons (tNm 4) (tsCons (tNm 5) (tsCons (tNm 6) (tsNil)))))))) (sRet (mAndV (mCh3 leD ltD ltD (mC (.int 0)) (mVar 2) (mVar 3) (mFld 0 0 (mVar 0))) (mAndV (mCh leD leD (mC (.int 1)) (mVar 4) (mC (.int 4))) (mCh3 leD ltD leD (mC (.int 0)) (mVar 5) (mVar 6) (mC (.int 8)))))))
/-- is_name(text); slots: text sign -/
def m_is_name : Phi := mBody 1 2 (sRet (mAndV (mCh leD leD (mC (.int 1)) (mCB (pureF lenD) (mCons (mVar 0) (mNil))) (mC (.int 8))) (mOp eqD (mLc [1] (mItems (mVar 0)) (tNm 1) (mTest (mOp notinS (mVar 1) (mC (.str "abcdefghijklmnopqrstuvwxyz")))) (mVar 1)) (mLst (mNil)))))
/-- House.is_person(self, number); slots: self number name begin goal most since free led zones person zone -/
def m_House_is_person : Phi := mBody 2 12 (sSeq (sAsg (mOp ixD (mFld 0 3 (mVar 0)) (mVar 1)) (tTp 7 (tsCons (tNm 2) (tsCons (tNm 3) (tsCons (tNm 4) (tsCons (tNm 5) (tsCons (tNm 6) (tsCons (tNm 7) (tsCons (tNm 8) (tsNil)))))))))) (sSeq (sIf (mOr (mNot (mTest (mCall m_is_name (mCons (mVar 2) (mNil))))) (mTest (mOp inD (mVar 2) (mLc [10] (mItems (mSl (mFld 0 3 (mVar 0)) (mNoP) (mPart (mVar 1)))) (tNm 10) (mYes) (mOp ixD (mVar 10) (mC (.int 0))))))) (sRet (mC (.bl false))) (sSkip)) (sSeq (sIf (mOr (mNot (mTest (mCh leD ltD (mC (.int 0)) (mVar 3) (mFld 0 0 (mVar 0))))) (mNot (mTest (mCh leD ltD (mNeg (mC (.int 1))) (mVar 4) (mFld 0 0 (mVar 0)))))) (sRet (mC (.bl false))) (sSkip)) (sSeq (sIf (mOr (mNot (mTest (mCh leD leD (mC (.int 0)) (mVar 5) (mC (.int 4))))) (mNot (mTest (mCh leD leD (mC (.int 0)) (mVar 6) (mC (.int 8)))))) (sRet (mC (.bl false))) (sSkip)) (sSeq (sAsg (mOp addD (mVar 7) (mVar 8)) (tNm 9)) (sSeq (sIf (mOr (mTest (mOp neD (mLc [11] (mItems (mVar 9)) (tNm 11) (mNot (mTest (mCh leD ltD (mC (.int 1)) (mVar 11) (mFld 0 0 (mVar 0))))) (mVar 11)) (mLst (mNil)))) (mTest (mOp neD (mCB (pureF lenSetD) (mCons (mCB (pureF setD) (mCons (mVar 9) (mNil))) (mNil))) (mCB (pureF lenD) (mCons (mVar 9) (mNil)))))) (sRet (mC (.bl false))) (sSkip)) (sRet (mAndV (mOp eqD (mVar 7) (mCB (pureF tupleD) (mCons (mCB (pureF sortTupD) (mCons (mVar 7) (mNil))) (mNil)))) (mOp eqD (mVar 8) (mCB (pureF tupleD) (mCons (mCB (pureF sortTupD) (mCons (mVar 8) (mNil))) (mNil))))))))))))
/-- House.__init__(self, zones, hours, doors, people); slots: self zones hours doors people number left person -/
def m_House_init_01 : Phi := mBody 5 8 (sSeq (sDrop (mCall m_must (mCons (mAndV (mCh leD leD (mC (.int 1)) (mVar 1) (mC (.int 4))) (mCh leD leD (mC (.int 0)) (mVar 2) (mC (.int 8)))) (mCons (mC (.str "house")) (mCons (mC (.int 0)) (mNil)))))) (sSeq (sDrop (mCall m_must (mCons (mOp leD (mCB (pureF lenD) (mCons (mVar 3) (mNil))) (mC (.int 6))) (mCons (mC (.str "doors")) (mCons (mC (.int 0)) (mNil)))))) (sSeq (sDrop (mCall m_must (mCons (mCh leD leD (mC (.int 1)) (mCB (pureF lenD) (mCons (mVar 4) (mNil))) (mC (.int 4))) (mCons (mC (.str "people")) (mCons (mC (.int 0)) (mNil)))))) (sSeq (sFldM 0 0 (mVar 0) (mVar 1)) (sSeq (sFldM 0 1 (mVar 0) (mVar 2)) (sSeq (sFldM 0 2 (mVar 0) (mCB (pureF listD) (mCons (mVar 3) (mNil)))) (sSeq (sFldM 0 3 (mVar 0) (mCB (pureF listD) (mCons (mVar 4) (mNil)))) (sSeq (sFor (mRng1 (mCons (mCB (pureF lenD) (mCons (mVar 3) (mNil))) (mNil))) (tNm 5) (sDrop (mCall m_must (mCons (mMeth 0 m_House_is_door (mVar 0) (mCons (mOp ixD (mVar 3) (mVar 5)) (mNil))) (mCons (mC (.str "door")) (mCons (mVar 5) (mNil))))))) (sSeq (sFor (mRng1 (mCons (mCB (pureF lenD) (mCons (mVar 4) (mNil))) (mNil))) (tNm 5) (sDrop (mCall m_must (mCons (mMeth 0 m_House_is_person (mVar 0) (mCons (mVar 5) (mNil))) (mCons (mC (.str "person")) (mCons (mVar 5) (mNil))))))) (sSeq (sAsg (mCall m_left_one_01 (mCons (mVar 0) (mCons (mCB (pureF tupleD) (mCons (mLcK [7] (mVar 4) (tNm 7) (mYes) (mOp ixD (mVar 7) (mC (.int 1)))) (mNil))) (mNil)))) (tNm 6)) (sDrop (mCall m_must (mCons (mOp isD (mVar 6) (mC .non)) (mCons (mC (.str "left")) (mCons (mIf (mTest (mOp isD (mVar 6) (mC .non))) (mC (.int 0)) (mVar 6)) (mNil))))))))))))))))
/-- made(house_here); slots: house_here -/
def m_lw_made_01 : Phi := mBody 1 1 (sRet (mFrz (mMake 0 m_House_init_01 (mCons (mOp ixD (mVar 0) (mC (.int 0))) (mCons (mOp ixD (mVar 0) (mC (.int 1))) (mCons (mCB (pureF listD) (mCons (mOp ixD (mVar 0) (mC (.int 2))) (mNil))) (mCons (mCB (pureF listD) (mCons (mOp ixD (mVar 0) (mC (.int 3))) (mNil))) (mNil))))))))
/-- drawn(row, house_here); slots: row house_here many group k -/
def m_lw_drawn_01 : Phi := mBody 2 5 (sSeq (sAsg (mCB (pureF lenD) (mCons (mOp ixD (mVar 1) (mC (.int 3))) (mNil))) (tNm 2)) (sSeq (sIf (mOr (mTest (mOp eqD (mOp ixD (mVar 1) (mC (.int 2))) (mLst (mNil)))) (mTest (mOp eqD (mCall m_lw_taken (mCons (mVar 0) (mCons (mC (.int 12)) (mNil)))) (mC (.int 11))))) (sRet (mTup (mCons (mC (.str "wait")) (mNil)))) (sSkip)) (sSeq (sAsg (mCB (pureF tupleD) (mCons (mLc [4] (mRng1 (mCons (mVar 2) (mNil))) (tNm 4) (mTest (mOp eqD (mCall m_lw_taken (mCons (mVar 0) (mCons (mC (.int 2)) (mNil)))) (mC (.int 1)))) (mVar 4)) (mNil))) (tNm 3)) (sSeq (sIf (mTest (mOp eqD (mVar 3) (mTup (mNil)))) (sAsg (mTup (mCons (mCall m_lw_taken (mCons (mVar 0) (mCons (mVar 2) (mNil)))) (mNil))) (tNm 3)) (sSkip)) (sRet (mTup (mCons (mC (.str "go")) (mCons (mCall m_lw_taken (mCons (mVar 0) (mCons (mCB (pureF lenD) (mCons (mOp ixD (mVar 1) (mC (.int 2))) (mNil))) (mNil)))) (mCons (mVar 3) (mNil))))))))))
/-- need_step(house, step); slots: house step group -/
def m_need_step : Phi := mBody 2 3 (sSeq (sIf (mTest (mOp eqD (mVar 1) (mC (.tup [.str "wait"])))) (sRetN) (sSkip)) (sSeq (sIf (mOr (mTest (mOp neD (mCB (pureF lenD) (mCons (mVar 1) (mNil))) (mC (.int 3)))) (mOr (mTest (mOp neD (mOp ixD (mVar 1) (mC (.int 0))) (mC (.str "go")))) (mNot (mTest (mCh leD ltD (mC (.int 0)) (mOp ixD (mVar 1) (mC (.int 1))) (mCB (pureF lenD) (mCons (mFld 0 2 (mVar 0)) (mNil)))))))) (sRaise0 3) (sSkip)) (sSeq (sAsg (mOp ixD (mVar 1) (mC (.int 2))) (tNm 2)) (sSeq (sIf (mOr (mTest (mOp eqD (mVar 2) (mTup (mNil)))) (mTest (mOp neD (mVar 2) (mCB (pureF tupleD) (mCons (mCB (pureF sortSetD) (mCons (mCB (pureF setD) (mCons (mVar 2) (mNil))) (mNil))) (mNil)))))) (sRaise0 3) (sSkip)) (sIf (mNot (mTest (mCh3 leD leD ltD (mC (.int 0)) (mOp ixD (mVar 2) (mC (.int 0))) (mOp ixD (mVar 2) (mNeg (mC (.int 1)))) (mCB (pureF lenD) (mCons (mFld 0 3 (mVar 0)) (mNil)))))) (sRaise0 3) (sSkip))))))
/-- first_of(persons); slots: persons -/
def m_first_of : Phi := mBody 1 1 (sRet (mIf (mTest (mOp neD (mVar 0) (mLst (mNil)))) (mOp ixD (mVar 0) (mC (.int 0))) (mC .non)))
/-- moved(state, group, zone); slots: state group zone person -/
def m_moved : Phi := mBody 3 4 (sRet (mCB (pureF tupleD) (mCons (mLc [3] (mRng1 (mCons (mCB (pureF lenD) (mCons (mVar 0) (mNil))) (mNil))) (tNm 3) (mYes) (mIf (mTest (mOp inD (mVar 3) (mVar 1))) (mVar 2) (mOp ixD (mVar 0) (mVar 3)))) (mNil))))
/-- bar_of_going(house, state, group, here, there); slots: house state group here there strange led left person -/
def m_bar_of_going_01 : Phi := mBody 5 9 (sSeq (sAsg (mCall m_first_of (mCons (mLc [8] (mItems (mVar 2)) (tNm 8) (mNot (mTest (mCall m_may_be (mCons (mVar 0) (mCons (mVar 8) (mCons (mVar 4) (mNil))))))) (mVar 8)) (mNil))) (tNm 5)) (sSeq (sIf (mTest (mOp isnotD (mVar 5) (mC .non))) (sRet (mTup (mCons (mC (.str "may")) (mCons (mVar 5) (mNil))))) (sSkip)) (sSeq (sAsg (mCall m_led_ones (mCons (mVar 0) (mCons (mVar 2) (mCons (mLst (mCons (mVar 3) (mCons (mVar 4) (mNil)))) (mNil))))) (tNm 6)) (sSeq (sIf (mTest (mOp gtD (mCB (pureF lenD) (mCons (mVar 6) (mNil))) (mCall m_can_lead_01 (mCons (mVar 0) (mCons (mVar 2) (mCons (mLst (mCons (mVar 3) (mCons (mVar 4) (mNil)))) (mNil))))))) (sRet (mTup (mCons (mC (.str "led")) (mCons (mOp ixD (mVar 6) (mC (.int 0))) (mNil))))) (sSkip)) (sSeq (sAsg (mCall m_left_one_01 (mCons (mVar 0) (mCons (mCall m_moved (mCons (mVar 1) (mCons (mVar 2) (mCons (mVar 4) (mNil))))) (mNil)))) (tNm 7)) (sSeq (sIf (mTest (mOp isnotD (mVar 7) (mC .non))) (sRet (mTup (mCons (mC (.str "left")) (mCons (mVar 7) (mNil))))) (sSkip)) (sRet (mC .non))))))))
/-- bar_of(house, hour, state, step); slots: house hour state step number group one other wide opens shuts late here away person -/
def m_bar_of_01 : Phi := mBody 4 15 (sSeq (sIf (mTest (mOp eqD (mVar 3) (mC (.tup [.str "wait"])))) (sRet (mC .non)) (sSkip)) (sSeq (sAsg (mOp ixD (mVar 3) (mC (.int 1))) (tNm 4)) (sSeq (sAsg (mCB (pureF listD) (mCons (mOp ixD (mVar 3) (mC (.int 2))) (mNil))) (tNm 5)) (sSeq (sAsg (mOp ixD (mFld 0 2 (mVar 0)) (mVar 4)) (tTp 5 (tsCons (tNm 6) (tsCons (tNm 7) (tsCons (tNm 8) (tsCons (tNm 9) (tsCons (tNm 10) (tsNil)))))))) (sSeq (sIf (mNot (mTest (mCh leD ltD (mVar 9) (mVar 1) (mVar 10)))) (sRet (mTup (mCons (mC (.str "hour")) (mCons (mVar 4) (mNil))))) (sSkip)) (sSeq (sAsg (mCall m_first_of (mCons (mLc [14] (mItems (mVar 5)) (tNm 14) (mTest (mOp gtD (mOp ixD (mOp ixD (mFld 0 3 (mVar 0)) (mVar 14)) (mC (.int 4))) (mVar 1))) (mVar 14)) (mNil))) (tNm 11)) (sSeq (sIf (mTest (mOp isnotD (mVar 11) (mC .non))) (sRet (mTup (mCons (mC (.str "late")) (mCons (mVar 11) (mNil))))) (sSkip)) (sSeq (sAsg (mOp ixD (mVar 2) (mOp ixD (mVar 5) (mC (.int 0)))) (tNm 12)) (sSeq (sAsg (mCall m_first_of (mCons (mLc [14] (mItems (mVar 5)) (tNm 14) (mOr (mTest (mOp neD (mOp ixD (mVar 2) (mVar 14)) (mVar 12))) (mTest (mOp notinD (mVar 12) (mTup (mCons (mVar 6) (mCons (mVar 7) (mNil))))))) (mVar 14)) (mNil))) (tNm 13)) (sSeq (sIf (mTest (mOp isnotD (mVar 13) (mC .non))) (sRet (mTup (mCons (mC (.str "place")) (mCons (mVar 13) (mNil))))) (sSkip)) (sSeq (sIf (mTest (mOp gtD (mCB (pureF lenD) (mCons (mVar 5) (mNil))) (mVar 8))) (sRet (mTup (mCons (mC (.str "wide")) (mCons (mVar 4) (mNil))))) (sSkip)) (sRet (mCall m_bar_of_going_01 (mCons (mVar 0) (mCons (mVar 2) (mCons (mVar 5) (mCons (mVar 12) (mCons (mOp subD (mOp addD (mVar 6) (mVar 7)) (mVar 12)) (mNil)))))))))))))))))))
/-- barred(house, hour, state, step); slots: house hour state step -/
def m_barred_01 : Phi := mBody 4 4 (sSeq (sDrop (mCall m_need_step (mCons (mVar 0) (mCons (mVar 3) (mNil))))) (sRet (mCall m_bar_of_01 (mCons (mVar 0) (mCons (mVar 1) (mCons (mVar 2) (mCons (mVar 3) (mNil))))))))
/-- behind(house_here, state, step); slots: house_here state step one other found person_here -/
def m_lw_behind : Phi := mBody 3 7 (sSeq (sIf (mTest (mOp eqD (mCB (pureF lenD) (mCons (mVar 2) (mNil))) (mC (.int 1)))) (sRet (mVar 1)) (sSkip)) (sSeq (sAsg (mSl (mOp ixD (mOp ixD (mVar 0) (mC (.int 2))) (mOp ixD (mVar 2) (mC (.int 1)))) (mNoP) (mPart (mC (.int 2)))) (tTp 2 (tsCons (tNm 3) (tsCons (tNm 4) (tsNil))))) (sSeq (sAsg (mCB listC (mCons (mVar 1) (mNil))) (tNm 5)) (sSeq (sFor (mItems (mOp ixD (mVar 2) (mC (.int 2)))) (tNm 6) (sPut (mVar 5) (mVar 6) (mOp ixD (mLst (mCons (mVar 3) (mCons (mVar 4) (mNil)))) (mCB (pureF intD) (mCons (mOp eqD (mOp ixD (mVar 1) (mVar 6)) (mVar 3)) (mNil)))))) (sSeq (sFrz 5) (sRet (mCB (pureF tupleD) (mCons (mVar 5) (mNil)))))))))
/-- bar(house_here, hour, state, step); slots: house_here hour state step word number group one other wide opens shuts person_here here there bound left_here k -/
def m_lw_bar_01 : Phi := mBody 4 18 (sSeq (sIf (mTest (mOp eqD (mCB (pureF lenD) (mCons (mVar 3) (mNil))) (mC (.int 1)))) (sRet (mC .non)) (sSkip)) (sSeq (sAsg (mVar 3) (tTp 3 (tsCons (tNm 4) (tsCons (tNm 5) (tsCons (tNm 6) (tsNil)))))) (sSeq (sAsg (mOp ixD (mOp ixD (mVar 0) (mC (.int 2))) (mVar 5)) (tTp 5 (tsCons (tNm 7) (tsCons (tNm 8) (tsCons (tNm 9) (tsCons (tNm 10) (tsCons (tNm 11) (tsNil)))))))) (sSeq (sIf (mOr (mTest (mOp ltD (mVar 1) (mVar 10))) (mTest (mOp geD (mVar 1) (mVar 11)))) (sRet (mTup (mCons (mC (.str "hour")) (mCons (mVar 5) (mNil))))) (sSkip)) (sSeq (sFor (mItems (mVar 6)) (tNm 12) (sIf (mTest (mOp gtD (mOp ixD (mOp ixD (mOp ixD (mVar 0) (mC (.int 3))) (mVar 12)) (mC (.int 4))) (mVar 1))) (sRet (mTup (mCons (mC (.str "late")) (mCons (mVar 12) (mNil))))) (sSkip))) (sSeq (sAsg (mOp ixD (mVar 2) (mOp ixD (mVar 6) (mC (.int 0)))) (tNm 13)) (sSeq (sIf (mAnd (mTest (mOp neD (mVar 13) (mVar 7))) (mTest (mOp neD (mVar 13) (mVar 8)))) (sRet (mTup (mCons (mC (.str "place")) (mCons (mOp ixD (mVar 6) (mC (.int 0))) (mNil))))) (sSkip)) (sSeq (sFor (mItems (mVar 6)) (tNm 12) (sIf (mTest (mOp neD (mOp ixD (mVar 2) (mVar 12)) (mVar 13))) (sRet (mTup (mCons (mC (.str "place")) (mCons (mVar 12) (mNil))))) (sSkip))) (sSeq (sIf (mTest (mOp gtD (mCB (pureF lenD) (mCons (mVar 6) (mNil))) (mVar 9))) (sRet (mTup (mCons (mC (.str "wide")) (mCons (mVar 5) (mNil))))) (sSkip)) (sSeq (sAsg (mOp ixD (mLst (mCons (mVar 7) (mCons (mVar 8) (mNil)))) (mCB (pureF intD) (mCons (mOp eqD (mVar 13) (mVar 7)) (mNil)))) (tNm 14)) (sSeq (sFor (mItems (mVar 6)) (tNm 12) (sIf (mAnd (mNot (mTest (mCall (mPure m_lw_free) (mCons (mVar 0) (mCons (mVar 12) (mCons (mVar 14) (mNil))))))) (mTest (mOp notinD (mVar 14) (mOp ixD (mOp ixD (mOp ixD (mVar 0) (mC (.int 3))) (mVar 12)) (mC (.int 6)))))) (sRet (mTup (mCons (mC (.str "may")) (mCons (mVar 12) (mNil))))) (sSkip))) (sSeq (sAsg (mLc [17] (mItems (mVar 6)) (tNm 17) (mOr (mNot (mTest (mCall (mPure m_lw_free) (mCons (mVar 0) (mCons (mVar 17) (mCons (mVar 13) (mNil))))))) (mNot (mTest (mCall (mPure m_lw_free) (mCons (mVar 0) (mCons (mVar 17) (mCons (mVar 14) (mNil)))))))) (mVar 17)) (tNm 15)) (sSeq (sIf (mTest (mOp gtD (mCB (pureF lenD) (mCons (mVar 15) (mNil))) (mCB (pureF sumD) (mCons (mLc [17] (mItems (mVar 6)) (tNm 17) (mTest (mOp notinD (mVar 17) (mVar 15))) (mOp ixD (mOp ixD (mOp ixD (mVar 0) (mC (.int 3))) (mVar 17)) (mC (.int 3)))) (mNil))))) (sRet (mTup (mCons (mC (.str "led")) (mCons (mOp ixD (mVar 15) (mC (.int 0))) (mNil))))) (sSkip)) (sSeq (sAsg (mCall (mPure m_lw_left) (mCons (mVar 0) (mCons (mCall (mPure m_lw_behind) (mCons (mVar 0) (mCons (mVar 2) (mCons (mVar 3) (mNil))))) (mNil)))) (tNm 16)) (sSeq (sIf (mTest (mOp isnotD (mVar 16) (mC .non))) (sRet (mTup (mCons (mC (.str "left")) (mCons (mVar 16) (mNil))))) (sSkip)) (sRet (mC .non)))))))))))))))))
/-- House.doors(self); slots: self -/
def m_House_doors : Phi := mBody 1 1 (sRet (mCB (pureF listD) (mCons (mFld 0 2 (mVar 0)) (mNil))))
/-- House.people(self); slots: self -/
def m_House_people : Phi := mBody 1 1 (sRet (mCB (pureF listD) (mCons (mFld 0 3 (mVar 0)) (mNil))))
/-- law(script); slots: script row house_here told k state step hour found due person_here -/
def m_law_01 : Phi := mBody 1 11 (sSeq (sAsg (mLstC (mCons (mVar 0) (mCons (mC (.int 0)) (mCons (mC (.int 0)) (mNil))))) (tNm 1)) (sSeq (sAsg (mCall (mRow m_lw_house) (mCons (mVar 1) (mNil))) (tNm 2)) (sSeq (sAsg (mCall (mPure m_lw_made_01) (mCons (mVar 2) (mNil))) (tNm 3)) (sSeq (sIf (mOr (mTest (mOp neD (mMeth 0 m_House_doors (mVar 3) mNil) (mOp ixD (mVar 2) (mC (.int 2))))) (mOr (mTest (mOp neD (mMeth 0 m_House_people (mVar 3) mNil) (mOp ixD (mVar 2) (mC (.int 3))))) (mTest (mOp neD (mTup (mCons (mFld 0 0 (mVar 3)) (mCons (mFld 0 1 (mVar 3)) (mNil)))) (mSl (mVar 2) (mNoP) (mPart (mC (.int 2)))))))) (sRet (mC (.bl false))) (sSkip)) (sSeq (sFor (mRng1 (mCons (mOp addD (mC (.int 5)) (mCall m_lw_taken (mCons (mVar 1) (mCons (mC (.int 26)) (mNil))))) (mNil))) (tNm 4) (sSeq (sAsg (mCB (pureF tupleD) (mCons (mLc [10] (mItems (mOp ixD (mVar 2) (mC (.int 3)))) (tNm 10) (mYes) (mCall m_lw_taken (mCons (mVar 1) (mCons (mOp ixD (mVar 2) (mC (.int 0))) (mNil))))) (mNil))) (tNm 5)) (sSeq (sIf (mTest (mOp eqD (mCall m_lw_taken (mCons (mVar 1) (mCons (mC (.int 2)) (mNil)))) (mC (.int 1)))) (sAsg (mOp mul1D (mTup (mCons (mOp ixD (mVar 5) (mC (.int 0))) (mNil))) (mCB (pureF lenD) (mCons (mVar 5) (mNil)))) (tNm 5)) (sSkip)) (sSeq (sIf (mTest (mOp neD (mCall m_left_one_01 (mCons (mVar 3) (mCons (mVar 5) (mNil)))) (mCall (mPure m_lw_left) (mCons (mVar 2) (mCons (mVar 5) (mNil)))))) (sRet (mC (.bl false))) (sSkip)) (sSeq (sAsg (mCall (mRow m_lw_drawn_01) (mCons (mVar 1) (mCons (mVar 2) (mNil)))) (tNm 6)) (sSeq (sAsg (mCall m_lw_taken (mCons (mVar 1) (mCons (mC (.int 9)) (mNil)))) (tNm 7)) (sSeq (sAsg (mCall m_barred_01 (mCons (mVar 3) (mCons (mVar 7) (mCons (mVar 5) (mCons (mVar 6) (mNil)))))) (tNm 8)) (sSeq (sAsg (mCall (mPure m_lw_bar_01) (mCons (mVar 2) (mCons (mVar 7) (mCons (mVar 5) (mCons (mVar 6) (mNil)))))) (tNm 9)) (sIf (mOr (mTest (mOp neD (mVar 8) (mVar 9))) (mAnd (mTest (mOp isnotD (mVar 9) (mC .non))) (mNot (mTest (mCB (pureF isiD) (mCons (mVar 8) (mCons (mC (.ty "tuple")) (mNil)))))))) (sRet (mC (.bl false))) (sSkip)))))))))) (sRet (mC (.bl true))))))))
/-- begin(house); slots: house person -/
def m_begin : Phi := mBody 1 2 (sRet (mCB (pureF tupleD) (mCons (mLc [1] (mItems (mFld 0 3 (mVar 0))) (tNm 1) (mYes) (mOp ixD (mVar 1) (mC (.int 1)))) (mNil))))
/-- groups_of(many); slots: many found person group -/
def m_groups_of : Phi := mBody 1 4 (sSeq (sAsg (mLst (mCons (mTup (mNil)) (mNil))) (tNm 1)) (sSeq (sFor (mRng1 (mCons (mVar 0) (mNil))) (tNm 2) (sAsg (mOp addD (mVar 1) (mLc [3] (mItems (mVar 1)) (tNm 3) (mYes) (mOp addD (mVar 3) (mTup (mCons (mVar 2) (mNil)))))) (tNm 1))) (sRet (mSl (mCB (pureF sortTTD) (mCons (mVar 1) (mNil))) (mPart (mC (.int 1))) (mNoP)))))
/-- steps_at(house, hour, state); slots: house hour state found groups door group -/
def m_steps_at_02 : Phi := mBody 3 7 (sSeq (sAsg (mLstC (mCons (mC (.tup [.str "wait"])) (mNil))) (tNm 3)) (sSeq (sAsg (mCall m_groups_of (mCons (mCB (pureF lenD) (mCons (mVar 2) (mNil))) (mNil))) (tNm 4)) (sSeq (sFor (mRng1 (mCons (mCB (pureF lenD) (mCons (mFld 0 2 (mVar 0)) (mNil))) (mNil))) (tNm 5) (sFor (mItems (mVar 4)) (tNm 6) (sIf (mTest (mOp isD (mCall m_bar_of_01 (mCons (mVar 0) (mCons (mVar 1) (mCons (mVar 2) (mCons (mTup (mCons (mC (.str "go")) (mCons (mVar 5) (mCons (mVar 6) (mNil))))) (mNil)))))) (mC .non))) (sDrop (mBM isCell appF (mVar 3) (mCons (mTup (mCons (mC (.str "go")) (mCons (mVar 5) (mCons (mVar 6) (mNil))))) (mNil)))) (sSkip)))) (sRet (mVar 3)))))
/-- is_right(house_here, state); slots: house_here state zone here bound k one -/
def m_lw_is_right : Phi := mBody 2 7 (sSeq (sFor (mRng1 (mCons (mOp ixD (mVar 0) (mC (.int 0))) (mNil))) (tNm 2) (sSeq (sAsg (mLc [5] (mRng1 (mCons (mCB (pureF lenD) (mCons (mVar 1) (mNil))) (mNil))) (tNm 5) (mTest (mOp eqD (mOp ixD (mVar 1) (mVar 5)) (mVar 2))) (mOp ixD (mOp ixD (mVar 0) (mC (.int 3))) (mVar 5))) (tNm 3)) (sSeq (sAsg (mLc [6] (mItems (mVar 3)) (tNm 6) (mAnd (mTest (mOp gtD (mVar 2) (mC (.int 0)))) (mTest (mOp notinD (mVar 2) (mOp ixD (mVar 6) (mC (.int 5)))))) (mVar 6)) (tNm 4)) (sSeq (sIf (mTest (mOp neD (mLc [6] (mItems (mVar 4)) (tNm 6) (mTest (mOp notinD (mVar 2) (mOp ixD (mVar 6) (mC (.int 6))))) (mVar 6)) (mLst (mNil)))) (sRet (mC (.bl false))) (sSkip)) (sIf (mTest (mOp gtD (mCB (pureF lenD) (mCons (mVar 4) (mNil))) (mCB (pureF sumD) (mCons (mLc [6] (mItems (mVar 3)) (tNm 6) (mTest (mOp notinX (mVar 6) (mVar 4))) (mOp ixD (mVar 6) (mC (.int 3)))) (mNil))))) (sRet (mC (.bl false))) (sSkip)))))) (sRet (mC (.bl true))))
/-- are_led(house_here, state, later, step); slots: house_here state later step bound hands person_here zones others zone k -/
def m_lw_are_led : Phi := mBody 4 11 (sSeq (sIf (mTest (mOp eqD (mCB (pureF lenD) (mCons (mVar 3) (mNil))) (mC (.int 1)))) (sRet (mOp eqD (mVar 1) (mVar 2))) (sSkip)) (sSeq (sAsg (mLstC (mNil)) (tNm 4)) (sSeq (sAsg (mC (.int 0)) (tNm 5)) (sSeq (sFor (mItems (mOp ixD (mVar 3) (mC (.int 2)))) (tNm 6) (sSeq (sAsg (mLc [9] (mItems (mLst (mCons (mOp ixD (mVar 1) (mVar 6)) (mCons (mOp ixD (mVar 2) (mVar 6)) (mNil))))) (tNm 9) (mTest (mOp gtD (mVar 9) (mC (.int 0)))) (mVar 9)) (tNm 7)) (sIf (mTest (mOp neD (mLc [9] (mItems (mVar 7)) (tNm 9) (mTest (mOp notinD (mVar 9) (mOp ixD (mOp ixD (mOp ixD (mVar 0) (mC (.int 3))) (mVar 6)) (mC (.int 5))))) (mVar 9)) (mLst (mNil)))) (sDrop (mBM isCell appF (mVar 4) (mCons (mVar 6) (mNil)))) (sAsg (mOp addD (mVar 5) (mOp ixD (mOp ixD (mOp ixD (mVar 0) (mC (.int 3))) (mVar 6)) (mC (.int 3)))) (tNm 5))))) (sSeq (sFrz 4) (sSeq (sAsg (mLc [10] (mRng1 (mCons (mCB (pureF lenD) (mCons (mVar 1) (mNil))) (mNil))) (tNm 10) (mAnd (mTest (mOp notinD (mVar 10) (mOp ixD (mVar 3) (mC (.int 2))))) (mTest (mOp neD (mOp ixD (mVar 1) (mVar 10)) (mOp ixD (mVar 2) (mVar 10))))) (mVar 10)) (tNm 8)) (sRet (mAndV (mOp leD (mCB (pureF lenD) (mCons (mVar 4) (mNil))) (mVar 5)) (mAndV (mOp eqD (mVar 8) (mLst (mNil))) (mOp leD (mCB (pureF lenD) (mCons (mOp ixD (mVar 3) (mC (.int 2))) (mNil))) (mOp ixD (mOp ixD (mOp ixD (mVar 0) (mC (.int 2))) (mOp ixD (mVar 3) (mC (.int 1)))) (mC (.int 2)))))))))))))
/-- walked(row, house_here, told, state, first); slots: row house_here told state first steps_here states k some step later -/
def m_lw_walked : Phi := mBody 5 11 (sSeq (sAsg (mLstC (mNil)) (tNm 5)) (sSeq (sAsg (mLstC (mCons (mVar 3) (mNil))) (tNm 6)) (sSeq (sFor (mRng1 (mCons (mCall m_lw_taken (mCons (mVar 0) (mCons (mC (.int 13)) (mNil)))) (mNil))) (tNm 7) (sSeq (sAsg (mCall (mPure (mFz m_steps_at_02)) (mCons (mVar 2) (mCons (mOp addD (mVar 4) (mVar 7)) (mCons (mOp ixD (mVar 6) (mNeg (mC (.int 1)))) (mNil))))) (tNm 8)) (sSeq (sAsg (mOp ixD (mVar 8) (mCall m_lw_taken (mCons (mVar 0) (mCons (mCB (pureF lenD) (mCons (mVar 8) (mNil))) (mNil))))) (tNm 9)) (sSeq (sAsg (mCall (mPure m_lw_behind) (mCons (mVar 1) (mCons (mOp ixD (mVar 6) (mNeg (mC (.int 1)))) (mCons (mVar 9) (mNil))))) (tNm 10)) (sSeq (sIf (mOr (mNot (mTest (mCall (mPure m_lw_is_right) (mCons (mVar 1) (mCons (mVar 10) (mNil)))))) (mNot (mTest (mCall (mPure m_lw_are_led) (mCons (mVar 1) (mCons (mOp ixD (mVar 6) (mNeg (mC (.int 1)))) (mCons (mVar 10) (mCons (mVar 9) (mNil))))))))) (sRet (mC .non)) (sSkip)) (sSeq (sDrop (mBM isCell appF (mVar 5) (mCons (mVar 9) (mNil)))) (sDrop (mBM isCell appF (mVar 6) (mCons (mVar 10) (mNil)))))))))) (sSeq (sFrz 6) (sSeq (sFrz 5) (sRet (mTup (mCons (mVar 5) (mCons (mVar 6) (mNil))))))))))
/-- behind(house, state, step); slots: house state step one other -/
def m_behind : Phi := mBody 3 5 (sSeq (sIf (mTest (mOp eqD (mVar 2) (mC (.tup [.str "wait"])))) (sRet (mVar 1)) (sSkip)) (sSeq (sAsg (mSl (mOp ixD (mFld 0 2 (mVar 0)) (mOp ixD (mVar 2) (mC (.int 1)))) (mNoP) (mPart (mC (.int 2)))) (tTp 2 (tsCons (tNm 3) (tsCons (tNm 4) (tsNil))))) (sRet (mCall m_moved (mCons (mVar 1) (mCons (mOp ixD (mVar 2) (mC (.int 2))) (mCons (mOp subD (mOp addD (mVar 3) (mVar 4)) (mOp ixD (mVar 1) (mOp ixD (mOp ixD (mVar 2) (mC (.int 2))) (mC (.int 0))))) (mNil))))))))
/-- gone(house, plan, hour, state); slots: house plan hour state found at bar -/
def m_gone_02 : Phi := mBody 4 7 (sSeq (sAsg (mLstC (mCons (mVar 3) (mNil))) (tNm 4)) (sSeq (sFor (mRng1 (mCons (mCB (pureF lenD) (mCons (mVar 1) (mNil))) (mNil))) (tNm 5) (sSeq (sIf (mTest (mOp geD (mOp addD (mVar 2) (mVar 5)) (mFld 0 1 (mVar 0)))) (sRaise0 3) (sSkip)) (sSeq (sAsg (mCall m_bar_of_01 (mCons (mVar 0) (mCons (mOp addD (mVar 2) (mVar 5)) (mCons (mOp ixD (mVar 4) (mNeg (mC (.int 1)))) (mCons (mOp ixD (mVar 1) (mVar 5)) (mNil)))))) (tNm 6)) (sSeq (sIf (mTest (mOp isnotD (mVar 6) (mC .non))) (sRaise 4 3 (mCons (mOp ixD (mVar 6) (mC (.int 0))) (mCons (mOp ixD (mVar 6) (mC (.int 1))) (mCons (mOp addD (mVar 2) (mVar 5)) (mNil))))) (sSkip)) (sDrop (mBM isCell appF (mVar 4) (mCons (mCall m_behind (mCons (mVar 0) (mCons (mOp ixD (mVar 4) (mNeg (mC (.int 1)))) (mCons (mOp ixD (mVar 1) (mVar 5)) (mNil))))) (mNil)))))))) (sSeq (sFrz 4) (sRet (mVar 4)))))
/-- played(house, plan); slots: house plan step -/
def m_played_02 : Phi := mBody 2 3 (sSeq (sFor (mItems (mVar 1)) (tNm 2) (sDrop (mCall m_need_step (mCons (mVar 0) (mCons (mVar 2) (mNil)))))) (sRet (mCall m_gone_02 (mCons (mVar 0) (mCons (mVar 1) (mCons (mC (.int 0)) (mCons (mCall m_begin (mCons (mVar 0) (mNil))) (mNil))))))))
/-- law(script); slots: script row house_here told state found plan k person_here -/
def m_law_02 : Phi := mBody 1 9 (sSeq (sAsg (mLstC (mCons (mVar 0) (mCons (mC (.int 0)) (mCons (mC (.int 0)) (mNil))))) (tNm 1)) (sSeq (sAsg (mCall (mRow m_lw_house) (mCons (mVar 1) (mNil))) (tNm 2)) (sSeq (sAsg (mCall (mPure m_lw_made_01) (mCons (mVar 2) (mNil))) (tNm 3)) (sSeq (sAsg (mCall m_begin (mCons (mVar 3) (mNil))) (tNm 4)) (sSeq (sIf (mOr (mTest (mOp neD (mVar 4) (mCB (pureF tupleD) (mCons (mLc [8] (mItems (mOp ixD (mVar 2) (mC (.int 3)))) (tNm 8) (mYes) (mOp ixD (mVar 8) (mC (.int 1)))) (mNil))))) (mNot (mTest (mCall (mPure m_lw_is_right) (mCons (mVar 2) (mCons (mVar 4) (mNil))))))) (sRet (mC (.bl false))) (sSkip)) (sSeq (sAsg (mCall (mRow m_lw_walked) (mCons (mVar 1) (mCons (mVar 2) (mCons (mVar 3) (mCons (mVar 4) (mCons (mC (.int 0)) (mNil))))))) (tNm 5)) (sSeq (sIf (mTest (mOp isD (mVar 5) (mC .non))) (sRet (mC (.bl false))) (sSkip)) (sSeq (sAsg (mSl (mOp ixD (mVar 5) (mC (.int 0))) (mNoP) (mPart (mOp ixD (mVar 2) (mC (.int 1))))) (tNm 6)) (sSeq (sIf (mTest (mOp neD (mCall m_played_02 (mCons (mVar 3) (mCons (mVar 6) (mNil)))) (mSl (mOp ixD (mVar 5) (mC (.int 1))) (mNoP) (mPart (mOp addD (mCB (pureF lenD) (mCons (mVar 6) (mNil))) (mC (.int 1))))))) (sRet (mC (.bl false))) (sSkip)) (sSeq (sFor (mRng1 (mCons (mC (.int 4)) (mNil))) (tNm 7) (sSeq (sAsg (mCB (pureF tupleD) (mCons (mLc [8] (mItems (mOp ixD (mVar 2) (mC (.int 3)))) (tNm 8) (mYes) (mCall m_lw_taken (mCons (mVar 1) (mCons (mOp ixD (mVar 2) (mC (.int 0))) (mNil))))) (mNil))) (tNm 4)) (sIf (mAnd (mTest (mCall (mPure m_lw_is_right) (mCons (mVar 2) (mCons (mVar 4) (mNil))))) (mTest (mOp isD (mCall (mRow m_lw_walked) (mCons (mVar 1) (mCons (mVar 2) (mCons (mVar 3) (mCons (mVar 4) (mCons (mCall m_lw_taken (mCons (mVar 1) (mCons (mC (.int 5)) (mNil)))) (mNil))))))) (mC .non)))) (sRet (mC (.bl false))) (sSkip)))) (sRet (mC (.bl true)))))))))))))
/-- steps(house_here, hour, state); slots: house_here hour state groups person_here found door group -/
def m_lw_steps_01 : Phi := mBody 3 8 (sSeq (sAsg (mLst (mCons (mTup (mNil)) (mNil))) (tNm 3)) (sSeq (sFor (mRng3 (mCons (mOp subD (mCB (pureF lenD) (mCons (mVar 2) (mNil))) (mC (.int 1))) (mCons (mNeg (mC (.int 1))) (mCons (mNeg (mC (.int 1))) (mNil))))) (tNm 4) (sAsg (mOp addD (mOp addD (mLst (mCons (mTup (mNil)) (mNil))) (mLc [7] (mItems (mVar 3)) (tNm 7) (mYes) (mOp addD (mTup (mCons (mVar 4) (mNil))) (mVar 7)))) (mSl (mVar 3) (mPart (mC (.int 1))) (mNoP))) (tNm 3))) (sSeq (sAsg (mLstC (mCons (mTup (mCons (mC (.str "wait")) (mNil))) (mNil))) (tNm 5)) (sSeq (sFor (mRng1 (mCons (mCB (pureF lenD) (mCons (mOp ixD (mVar 0) (mC (.int 2))) (mNil))) (mNil))) (tNm 6) (sFor (mItems (mSl (mVar 3) (mPart (mC (.int 1))) (mNoP))) (tNm 7) (sIf (mTest (mOp isD (mCall (mPure m_lw_bar_01) (mCons (mVar 0) (mCons (mVar 1) (mCons (mVar 2) (mCons (mTup (mCons (mC (.str "go")) (mCons (mVar 6) (mCons (mVar 7) (mNil))))) (mNil)))))) (mC .non))) (sDrop (mBM isCell appF (mVar 5) (mCons (mTup (mCons (mC (.str "go")) (mCons (mVar 6) (mCons (mVar 7) (mNil))))) (mNil)))) (sSkip)))) (sSeq (sFrz 5) (sRet (mVar 5)))))))
/-- law(script); slots: script row house_here told states state hour due turn found k person_here -/
def m_law_03 : Phi := mBody 1 12 (sSeq (sAsg (mLstC (mCons (mVar 0) (mCons (mC (.int 0)) (mCons (mC (.int 0)) (mNil))))) (tNm 1)) (sSeq (sAsg (mCall (mRow m_lw_house) (mCons (mVar 1) (mNil))) (tNm 2)) (sSeq (sAsg (mCall (mPure m_lw_made_01) (mCons (mVar 2) (mNil))) (tNm 3)) (sSeq (sAsg (mOp addD (mLst (mCons (mCall m_begin (mCons (mVar 3) (mNil))) (mNil))) (mLc [10] (mRng1 (mCons (mC (.int 4)) (mNil))) (tNm 10) (mYes) (mCB (pureF tupleD) (mCons (mLc [11] (mItems (mOp ixD (mVar 2) (mC (.int 3)))) (tNm 11) (mYes) (mCall m_lw_taken (mCons (mVar 1) (mCons (mOp ixD (mVar 2) (mC (.int 0))) (mNil))))) (mNil))))) (tNm 4)) (sSeq (sFor (mItems (mVar 4)) (tNm 5) (sSeq (sAsg (mCall m_lw_taken (mCons (mVar 1) (mCons (mC (.int 9)) (mNil)))) (tNm 6)) (sSeq (sAsg (mCall (mPure m_lw_steps_01) (mCons (mVar 2) (mCons (mVar 6) (mCons (mVar 5) (mNil))))) (tNm 7)) (sFor (mRng1 (mCons (mC (.int 2)) (mNil))) (tNm 8) (sSeq (sAsg (mCall m_steps_at_02 (mCons (mVar 3) (mCons (mVar 6) (mCons (mVar 5) (mNil))))) (tNm 9)) (sSeq (sIf (mOr (mNot (mTest (mCB (pureF isiD) (mCons (mVar 9) (mCons (mC (.ty "list")) (mNil)))))) (mTest (mOp neD (mVar 9) (mVar 7)))) (sRet (mC (.bl false))) (sSkip)) (sDrop (mBM isCell appF (mVar 9) (mCons (mTup (mCons (mC (.str "wait")) (mNil))) (mNil)))))))))) (sRet (mC (.bl true))))))))
/-- zones_text(zones); slots: zones zone -/
def m_zones_text : Phi := mBody 1 2 (sRet (mIf (mTest (mOp neD (mVar 0) (mTup (mNil)))) (mBM isStr joinF (mC (.str ",")) (mCons (mLc [1] (mItems (mVar 0)) (tNm 1) (mYes) (mCB (pureF strD) (mCons (mVar 1) (mNil)))) (mNil))) (mC (.str "-"))))
/-- written(house); slots: house rows door person numbers number -/
def m_written : Phi := mBody 1 6 (sSeq (sAsg (mLstC (mCons (mOp addD (mOp addD (mOp addD (mC (.str "house ")) (mCB (pureF strD) (mCons (mFld 0 0 (mVar 0)) (mNil)))) (mC (.str " "))) (mCB (pureF strD) (mCons (mFld 0 1 (mVar 0)) (mNil)))) (mNil))) (tNm 1)) (sSeq (sFor (mItems (mMeth 0 m_House_doors (mVar 0) mNil)) (tNm 2) (sDrop (mBM isCell appF (mVar 1) (mCons (mBM isStr joinF (mC (.str " ")) (mCons (mOp addD (mLst (mCons (mC (.str "door")) (mNil))) (mLc [5] (mItems (mVar 2)) (tNm 5) (mYes) (mCB (pureF strD) (mCons (mVar 5) (mNil))))) (mNil))) (mNil))))) (sSeq (sFor (mItems (mMeth 0 m_House_people (mVar 0) mNil)) (tNm 3) (sSeq (sAsg (mLc [5] (mItems (mSl (mVar 3) (mPart (mC (.int 1))) (mPart (mC (.int 5))))) (tNm 5) (mYes) (mCB (pureF strD) (mCons (mVar 5) (mNil)))) (tNm 4)) (sDrop (mBM isCell appF (mVar 1) (mCons (mBM isStr joinF (mC (.str " ")) (mCons (mOp addD (mOp addD (mLst (mCons (mC (.str "who")) (mCons (mOp ixD (mVar 3) (mC (.int 0))) (mNil)))) (mVar 4)) (mLst (mCons (mCall m_zones_text (mCons (mOp ixD (mVar 3) (mC (.int 5))) (mNil))) (mCons (mCall m_zones_text (mCons (mOp ixD (mVar 3) (mC (.int 6))) (mNil))) (mNil))))) (mNil))) (mNil)))))) (sSeq (sFrz 1) (sRet (mBM isStr joinF (mC (.str "\n")) (mCons (mVar 1) (mNil))))))))
/-- number_of(word, row); slots: word row -/
def m_number_of : Phi := mBody 2 2 (sSeq (sIf (mTest (mOp eqD (mVar 0) (mC (.str "-1")))) (sRet (mNeg (mC (.int 1)))) (sSkip)) (sSeq (sIf (mOr (mTest (mOp neD (mCB (pureF lenD) (mCons (mVar 0) (mNil))) (mC (.int 1)))) (mTest (mOp notinS (mVar 0) (mC (.str "0123456789"))))) (sRaise 6 1 (mCons (mVar 1) (mNil))) (sSkip)) (sRet (mCB (pureF intSD) (mCons (mVar 0) (mNil))))))
/-- zones_of(word, row); slots: word row one -/
def m_zones_of : Phi := mBody 2 3 (sSeq (sIf (mTest (mOp eqD (mVar 0) (mC (.str "-")))) (sRet (mTup (mNil))) (sSkip)) (sRet (mCB (pureF tupleD) (mCons (mLc [2] (mItems (mBM isStr splitF (mVar 0) (mCons (mC (.str ",")) (mNil)))) (tNm 2) (mYes) (mCall m_number_of (mCons (mVar 2) (mCons (mVar 1) (mNil))))) (mNil)))))
/-- read(text); slots: text head doors people row line words numbers word -/
def m_read : Phi := mBody 1 9 (sSeq (sAsg (mLst (mNil)) (tNm 1)) (sSeq (sAsg (mLstC (mNil)) (tNm 2)) (sSeq (sAsg (mLstC (mNil)) (tNm 3)) (sSeq (sFor (mEnum (mCons (mBM isStr splitF (mVar 0) (mCons (mC (.str "\n")) (mNil))) (mNil))) (tTp 2 (tsCons (tNm 4) (tsCons (tNm 5) (tsNil)))) (sSeq (sAsg (mBM isStr splitF (mVar 5) (mCons (mC (.str " ")) (mNil))) (tNm 6)) (sSeq (sIf (mTest (mOp inD (mC (.str "")) (mVar 6))) (sRaise 6 1 (mCons (mVar 4) (mNil))) (sSkip)) (sIf (mAnd (mTest (mOp eqD (mVar 4) (mC (.int 0)))) (mAnd (mTest (mOp eqD (mOp ixD (mVar 6) (mC (.int 0))) (mC (.str "house")))) (mTest (mOp eqD (mCB (pureF lenD) (mCons (mVar 6) (mNil))) (mC (.int 3)))))) (sAsg (mLc [8] (mItems (mSl (mVar 6) (mPart (mC (.int 1))) (mNoP))) (tNm 8) (mYes) (mCall m_number_of (mCons (mVar 8) (mCons (mVar 4) (mNil))))) (tNm 1)) (sIf (mAnd (mTest (mOp gtD (mVar 4) (mC (.int 0)))) (mAnd (mTest (mOp eqD (mOp ixD (mVar 6) (mC (.int 0))) (mC (.str "door")))) (mAnd (mTest (mOp eqD (mCB (pureF lenD) (mCons (mVar 6) (mNil))) (mC (.int 6)))) (mTest (mOp eqD (mVar 3) (mLst (mNil))))))) (sDrop (mBM isCell appF (mVar 2) (mCons (mCB (pureF tupleD) (mCons (mLc [8] (mItems (mSl (mVar 6) (mPart (mC (.int 1))) (mNoP))) (tNm 8) (mYes) (mCall m_number_of (mCons (mVar 8) (mCons (mVar 4) (mNil))))) (mNil))) (mNil)))) (sIf (mAnd (mTest (mOp gtD (mVar 4) (mC (.int 0)))) (mAnd (mTest (mOp eqD (mOp ixD (mVar 6) (mC (.int 0))) (mC (.str "who")))) (mTest (mOp eqD (mCB (pureF lenD) (mCons (mVar 6) (mNil))) (mC (.int 8)))))) (sSeq (sAsg (mCB (pureF tupleD) (mCons (mLc [8] (mItems (mSl (mVar 6) (mPart (mC (.int 2))) (mPart (mC (.int 6))))) (tNm 8) (mYes) (mCall m_number_of (mCons (mVar 8) (mCons (mVar 4) (mNil))))) (mNil))) (tNm 7)) (sDrop (mBM isCell appF (mVar 3) (mCons (mOp addD (mOp addD (mTup (mCons (mOp ixD (mVar 6) (mC (.int 1))) (mNil))) (mVar 7)) (mTup (mCons (mCall m_zones_of (mCons (mOp ixD (mVar 6) (mC (.int 6))) (mCons (mVar 4) (mNil)))) (mCons (mCall m_zones_of (mCons (mOp ixD (mVar 6) (mC (.int 7))) (mCons (mVar 4) (mNil)))) (mNil))))) (mNil))))) (sRaise 6 1 (mCons (mVar 4) (mNil))))))))) (sSeq (sFrz 2) (sSeq (sFrz 3) (sRet (mFrz (mMake 0 m_House_init_01 (mCons (mOp ixD (mVar 1) (mC (.int 0))) (mCons (mOp ixD (mVar 1) (mC (.int 1))) (mCons (mVar 2) (mCons (mVar 3) (mNil))))))))))))))
/-- text(house_here); slots: house_here rows door person_here numbers zones told number some zone -/
def m_lw_text : Phi := mBody 1 10 (sSeq (sAsg (mLstC (mCons (mOp addD (mOp addD (mOp addD (mC (.str "house ")) (mCB (pureF strD) (mCons (mOp ixD (mVar 0) (mC (.int 0))) (mNil)))) (mC (.str " "))) (mCB (pureF strD) (mCons (mOp ixD (mVar 0) (mC (.int 1))) (mNil)))) (mNil))) (tNm 1)) (sSeq (sFor (mItems (mOp ixD (mVar 0) (mC (.int 2)))) (tNm 2) (sDrop (mBM isCell appF (mVar 1) (mCons (mOp addD (mC (.str "door ")) (mBM isStr joinF (mC (.str " ")) (mCons (mLc [7] (mItems (mVar 2)) (tNm 7) (mYes) (mCB (pureF strD) (mCons (mVar 7) (mNil)))) (mNil)))) (mNil))))) (sSeq (sFor (mItems (mOp ixD (mVar 0) (mC (.int 3)))) (tNm 3) (sSeq (sAsg (mBM isStr joinF (mC (.str " ")) (mCons (mLc [7] (mItems (mSl (mVar 3) (mPart (mC (.int 1))) (mPart (mC (.int 5))))) (tNm 7) (mYes) (mCB (pureF strD) (mCons (mVar 7) (mNil)))) (mNil))) (tNm 4)) (sSeq (sAsg (mLc [8] (mItems (mSl (mVar 3) (mPart (mC (.int 5))) (mNoP))) (tNm 8) (mYes) (mBM isStr joinF (mC (.str ",")) (mCons (mLc [9] (mItems (mVar 8)) (tNm 9) (mYes) (mCB (pureF strD) (mCons (mVar 9) (mNil)))) (mNil)))) (tNm 5)) (sSeq (sAsg (mLc [8] (mItems (mVar 5)) (tNm 8) (mYes) (mOp ixD (mLst (mCons (mVar 8) (mCons (mC (.str "-")) (mNil)))) (mCB (pureF intD) (mCons (mOp eqD (mVar 8) (mC (.str ""))) (mNil))))) (tNm 6)) (sDrop (mBM isCell appF (mVar 1) (mCons (mOp addD (mOp addD (mOp addD (mOp addD (mOp addD (mOp addD (mOp addD (mC (.str "who ")) (mOp ixD (mVar 3) (mC (.int 0)))) (mC (.str " "))) (mVar 4)) (mC (.str " "))) (mOp ixD (mVar 6) (mC (.int 0)))) (mC (.str " "))) (mOp ixD (mVar 6) (mC (.int 1)))) (mNil)))))))) (sSeq (sFrz 1) (sRet (mBM isStr joinF (mC (.str "\n")) (mCons (mVar 1) (mNil))))))))
/-- law(script); slots: script row one other house_here text_here told -/
def m_law_09 : Phi := mBody 1 7 (sSeq (sAsg (mLstC (mCons (mVar 0) (mCons (mC (.int 0)) (mCons (mC (.int 0)) (mNil))))) (tNm 1)) (sSeq (sAsg (mCall (mRow m_lw_house) (mCons (mVar 1) (mNil))) (tNm 2)) (sSeq (sAsg (mCall (mRow m_lw_house) (mCons (mVar 1) (mNil))) (tNm 3)) (sSeq (sFor (mItems (mLst (mCons (mVar 2) (mCons (mVar 3) (mCons (mVar 2) (mNil)))))) (tNm 4) (sSeq (sAsg (mCall (mPure m_written) (mCons (mCall (mPure m_lw_made_01) (mCons (mVar 4) (mNil))) (mNil))) (tNm 5)) (sSeq (sIf (mOr (mNot (mTest (mCB (pureF isiD) (mCons (mVar 5) (mCons (mC (.ty "str")) (mNil)))))) (mTest (mOp neD (mVar 5) (mCall (mPure m_lw_text) (mCons (mVar 4) (mNil)))))) (sRet (mC (.bl false))) (sSkip)) (sSeq (sAsg (mCall (mPure m_read) (mCons (mVar 5) (mNil))) (tNm 6)) (sIf (mOr (mTest (mOp neD (mTup (mCons (mFld 0 0 (mVar 6)) (mCons (mFld 0 1 (mVar 6)) (mCons (mMeth 0 m_House_doors (mVar 6) mNil) (mCons (mMeth 0 m_House_people (mVar 6) mNil) (mNil)))))) (mVar 4))) (mTest (mOp neD (mCall (mPure m_written) (mCons (mVar 6) (mNil))) (mVar 5)))) (sRet (mC (.bl false))) (sSkip)))))) (sRet (mC (.bl true)))))))
/-- bad_door(row, zones); slots: row zones far some -/
def m_lw_bad_door : Phi := mBody 2 4 (sSeq (sAsg (mOp mulD (mCall m_lw_taken (mCons (mVar 0) (mCons (mOp powD (mC (.int 10)) (mC (.int 6))) (mNil)))) (mCall m_lw_taken (mCons (mVar 0) (mCons (mC (.int 2)) (mNil))))) (tNm 2)) (sSeq (sAsg (mLst (mCons (mTup (mCons (mC (.int 0)) (mCons (mC (.int 0)) (mCons (mC (.int 1)) (mCons (mC (.int 0)) (mCons (mC (.int 8)) (mNil))))))) (mCons (mTup (mCons (mOp subD (mNeg (mC (.int 1))) (mVar 2)) (mCons (mC (.int 0)) (mCons (mC (.int 1)) (mCons (mC (.int 0)) (mCons (mC (.int 8)) (mNil))))))) (mCons (mTup (mCons (mC (.int 0)) (mCons (mOp addD (mVar 1) (mVar 2)) (mCons (mC (.int 1)) (mCons (mC (.int 0)) (mCons (mC (.int 8)) (mNil))))))) (mCons (mTup (mCons (mC (.int 1)) (mCons (mC (.int 0)) (mCons (mC (.int 1)) (mCons (mC (.int 0)) (mCons (mC (.int 8)) (mNil))))))) (mCons (mTup (mCons (mC (.int 0)) (mCons (mC (.int 1)) (mCons (mC (.int 0)) (mCons (mC (.int 0)) (mCons (mC (.int 8)) (mNil))))))) (mNil))))))) (tNm 3)) (sSeq (sAsg (mOp addD (mVar 3) (mLst (mCons (mTup (mCons (mC (.int 0)) (mCons (mC (.int 1)) (mCons (mOp addD (mC (.int 5)) (mVar 2)) (mCons (mC (.int 0)) (mCons (mC (.int 8)) (mNil))))))) (mCons (mTup (mCons (mC (.int 0)) (mCons (mC (.int 1)) (mCons (mC (.int 1)) (mCons (mC (.int 3)) (mCons (mC (.int 3)) (mNil))))))) (mCons (mTup (mCons (mC (.int 0)) (mCons (mC (.int 1)) (mCons (mC (.int 1)) (mCons (mC (.int 4)) (mCons (mC (.int 3)) (mNil))))))) (mCons (mTup (mCons (mC (.int 0)) (mCons (mC (.int 1)) (mCons (mC (.int 1)) (mCons (mOp subD (mNeg (mC (.int 1))) (mVar 2)) (mCons (mC (.int 8)) (mNil))))))) (mNil))))))) (tNm 3)) (sRet (mOp ixD (mOp addD (mVar 3) (mLst (mCons (mTup (mCons (mC (.int 0)) (mCons (mC (.int 1)) (mCons (mC (.int 1)) (mCons (mC (.int 0)) (mCons (mOp addD (mC (.int 9)) (mVar 2)) (mNil))))))) (mNil)))) (mCall m_lw_taken (mCons (mVar 0) (mCons (mC (.int 10)) (mNil)))))))))
/-- bad_person(row, house_here, at); slots: row house_here at name begin_zone goal most since free_here led zones far bad some -/
def m_lw_bad_person : Phi := mBody 3 14 (sSeq (sAsg (mOp ixD (mOp ixD (mVar 1) (mC (.int 3))) (mVar 2)) (tTp 7 (tsCons (tNm 3) (tsCons (tNm 4) (tsCons (tNm 5) (tsCons (tNm 6) (tsCons (tNm 7) (tsCons (tNm 8) (tsCons (tNm 9) (tsNil)))))))))) (sSeq (sAsg (mOp ixD (mVar 1) (mC (.int 0))) (tNm 10)) (sSeq (sAsg (mCall m_lw_taken (mCons (mVar 0) (mCons (mOp powD (mC (.int 10)) (mC (.int 6))) (mNil)))) (tNm 11)) (sSeq (sAsg (mOp ixD (mLst (mCons (mC (.str "")) (mCons (mC (.str "ninesigns")) (mCons (mC (.str "Ab")) (mCons (mC (.str "a1")) (mCons (mC (.str " a")) (mNil))))))) (mCall m_lw_taken (mCons (mVar 0) (mCons (mC (.int 5)) (mNil))))) (tNm 12)) (sSeq (sAsg (mLst (mCons (mTup (mCons (mVar 12) (mCons (mC (.int 0)) (mCons (mVar 5) (mCons (mVar 6) (mCons (mVar 7) (mCons (mVar 8) (mCons (mVar 9) (mNil))))))))) (mCons (mTup (mCons (mVar 3) (mCons (mOp subD (mOp subD (mC (.int 0)) (mVar 11)) (mC (.int 1))) (mCons (mVar 5) (mCons (mVar 6) (mCons (mVar 7) (mCons (mVar 8) (mCons (mVar 9) (mNil))))))))) (mNil)))) (tNm 13)) (sSeq (sAsg (mOp addD (mVar 13) (mLst (mCons (mTup (mCons (mVar 3) (mCons (mOp addD (mVar 10) (mVar 11)) (mCons (mVar 5) (mCons (mVar 6) (mCons (mVar 7) (mCons (mVar 8) (mCons (mVar 9) (mNil))))))))) (mCons (mTup (mCons (mVar 3) (mCons (mC (.int 0)) (mCons (mOp subD (mNeg (mC (.int 2))) (mVar 11)) (mCons (mVar 6) (mCons (mVar 7) (mCons (mVar 8) (mCons (mVar 9) (mNil))))))))) (mNil))))) (tNm 13)) (sSeq (sAsg (mOp addD (mVar 13) (mLst (mCons (mTup (mCons (mVar 3) (mCons (mC (.int 0)) (mCons (mOp addD (mVar 10) (mVar 11)) (mCons (mVar 6) (mCons (mVar 7) (mCons (mVar 8) (mCons (mVar 9) (mNil))))))))) (mCons (mTup (mCons (mVar 3) (mCons (mC (.int 0)) (mCons (mVar 5) (mCons (mOp subD (mNeg (mC (.int 1))) (mVar 11)) (mCons (mVar 7) (mCons (mVar 8) (mCons (mVar 9) (mNil))))))))) (mNil))))) (tNm 13)) (sSeq (sAsg (mOp addD (mVar 13) (mLst (mCons (mTup (mCons (mVar 3) (mCons (mC (.int 0)) (mCons (mVar 5) (mCons (mOp addD (mC (.int 5)) (mVar 11)) (mCons (mVar 7) (mCons (mVar 8) (mCons (mVar 9) (mNil))))))))) (mCons (mTup (mCons (mVar 3) (mCons (mC (.int 0)) (mCons (mVar 5) (mCons (mVar 6) (mCons (mOp subD (mNeg (mC (.int 1))) (mVar 11)) (mCons (mVar 8) (mCons (mVar 9) (mNil))))))))) (mNil))))) (tNm 13)) (sSeq (sAsg (mOp addD (mVar 13) (mLst (mCons (mTup (mCons (mVar 3) (mCons (mC (.int 0)) (mCons (mVar 5) (mCons (mVar 6) (mCons (mOp addD (mC (.int 9)) (mVar 11)) (mCons (mVar 8) (mCons (mVar 9) (mNil))))))))) (mCons (mTup (mCons (mVar 3) (mCons (mC (.int 0)) (mCons (mVar 5) (mCons (mVar 6) (mCons (mVar 7) (mCons (mTup (mCons (mC (.int 0)) (mNil))) (mCons (mTup (mNil)) (mNil))))))))) (mNil))))) (tNm 13)) (sSeq (sAsg (mOp addD (mVar 13) (mLst (mCons (mTup (mCons (mVar 3) (mCons (mC (.int 0)) (mCons (mVar 5) (mCons (mVar 6) (mCons (mVar 7) (mCons (mTup (mNil)) (mCons (mTup (mCons (mC (.int 0)) (mNil))) (mNil))))))))) (mCons (mTup (mCons (mVar 3) (mCons (mC (.int 0)) (mCons (mVar 5) (mCons (mVar 6) (mCons (mVar 7) (mCons (mTup (mCons (mOp addD (mVar 10) (mVar 11)) (mNil))) (mCons (mTup (mNil)) (mNil))))))))) (mNil))))) (tNm 13)) (sSeq (sAsg (mOp addD (mVar 13) (mLst (mCons (mTup (mCons (mVar 3) (mCons (mC (.int 0)) (mCons (mVar 5) (mCons (mVar 6) (mCons (mVar 7) (mCons (mTup (mNil)) (mCons (mTup (mCons (mOp subD (mNeg (mC (.int 1))) (mVar 11)) (mNil))) (mNil))))))))) (mCons (mTup (mCons (mVar 3) (mCons (mC (.int 0)) (mCons (mVar 5) (mCons (mVar 6) (mCons (mVar 7) (mCons (mTup (mNil)) (mCons (mTup (mCons (mOp addD (mVar 10) (mVar 11)) (mNil))) (mNil))))))))) (mNil))))) (tNm 13)) (sSeq (sIf (mTest (mOp gtD (mVar 10) (mC (.int 1)))) (sAsg (mOp addD (mVar 13) (mLst (mCons (mTup (mCons (mVar 3) (mCons (mC (.int 0)) (mCons (mVar 5) (mCons (mVar 6) (mCons (mVar 7) (mCons (mTup (mCons (mC (.int 1)) (mNil))) (mCons (mTup (mCons (mC (.int 1)) (mNil))) (mNil))))))))) (mCons (mTup (mCons (mVar 3) (mCons (mC (.int 0)) (mCons (mVar 5) (mCons (mVar 6) (mCons (mVar 7) (mCons (mTup (mCons (mC (.int 1)) (mCons (mC (.int 1)) (mNil)))) (mCons (mTup (mNil)) (mNil))))))))) (mNil))))) (tNm 13)) (sSkip)) (sSeq (sIf (mTest (mOp gtD (mVar 10) (mC (.int 2)))) (sAsg (mOp addD (mVar 13) (mLst (mCons (mTup (mCons (mVar 3) (mCons (mC (.int 0)) (mCons (mVar 5) (mCons (mVar 6) (mCons (mVar 7) (mCons (mTup (mCons (mC (.int 2)) (mCons (mC (.int 1)) (mNil)))) (mCons (mTup (mNil)) (mNil))))))))) (mCons (mTup (mCons (mVar 3) (mCons (mC (.int 0)) (mCons (mVar 5) (mCons (mVar 6) (mCons (mVar 7) (mCons (mTup (mNil)) (mCons (mTup (mCons (mC (.int 2)) (mCons (mC (.int 1)) (mNil)))) (mNil))))))))) (mNil))))) (tNm 13)) (sSkip)) (sRet (mOp ixD (mVar 13) (mCall m_lw_taken (mCons (mVar 0) (mCons (mCB (pureF lenD) (mCons (mVar 13) (mNil))) (mNil)))))))))))))))))))
/-- wrong(row, house_here); slots: row house_here zones hours doors people far way bad at made_here safe person_here -/
def m_lw_wrong : Phi := mBody 2 13 (sSeq (sAsg (mVar 1) (tTp 4 (tsCons (tNm 2) (tsCons (tNm 3) (tsCons (tNm 4) (tsCons (tNm 5) (tsNil))))))) (sSeq (sAsg (mCall m_lw_taken (mCons (mVar 0) (mCons (mOp powD (mC (.int 10)) (mC (.int 6))) (mNil)))) (tNm 6)) (sSeq (sAsg (mCall m_lw_taken (mCons (mVar 0) (mCons (mC (.int 10)) (mNil)))) (tNm 7)) (sSeq (sIf (mTest (mOp eqD (mVar 7) (mC (.int 0)))) (sSeq (sAsg (mOp ixD (mLst (mCons (mTup (mCons (mOp subD (mC (.int 0)) (mVar 6)) (mCons (mVar 3) (mNil)))) (mCons (mTup (mCons (mOp addD (mC (.int 5)) (mVar 6)) (mCons (mVar 3) (mNil)))) (mCons (mTup (mCons (mVar 2) (mCons (mOp subD (mNeg (mC (.int 1))) (mVar 6)) (mNil)))) (mCons (mTup (mCons (mVar 2) (mCons (mOp addD (mC (.int 9)) (mVar 6)) (mNil)))) (mNil)))))) (mCall m_lw_taken (mCons (mVar 0) (mCons (mC (.int 4)) (mNil))))) (tNm 8)) (sRet (mTup (mCons (mOp addD (mVar 8) (mTup (mCons (mOp mulD (mLst (mCons (mTup (mCons (mC (.int 9)) (mCons (mC (.int 9)) (mCons (mC (.int 9)) (mCons (mC (.int 9)) (mCons (mC (.int 9)) (mNil))))))) (mNil))) (mC (.int 7))) (mCons (mLst (mNil)) (mNil))))) (mCons (mC (.str "house")) (mCons (mC (.int 0)) (mNil))))))) (sSkip)) (sSeq (sIf (mTest (mOp eqD (mVar 7) (mC (.int 1)))) (sRet (mTup (mCons (mTup (mCons (mVar 2) (mCons (mVar 3) (mCons (mOp mulD (mLst (mCons (mTup (mCons (mC (.int 9)) (mCons (mC (.int 9)) (mCons (mC (.int 9)) (mCons (mC (.int 9)) (mCons (mC (.int 9)) (mNil))))))) (mNil))) (mC (.int 7))) (mCons (mLst (mNil)) (mNil)))))) (mCons (mC (.str "doors")) (mCons (mC (.int 0)) (mNil)))))) (sSkip)) (sSeq (sIf (mTest (mOp eqD (mVar 7) (mC (.int 2)))) (sRet (mTup (mCons (mTup (mCons (mVar 2) (mCons (mVar 3) (mCons (mLst (mCons (mTup (mCons (mC (.int 9)) (mCons (mC (.int 9)) (mCons (mC (.int 9)) (mCons (mC (.int 9)) (mCons (mC (.int 9)) (mNil))))))) (mNil))) (mCons (mOp ixD (mLst (mCons (mLst (mNil)) (mCons (mOp mulD (mSl (mVar 5) (mNoP) (mPart (mC (.int 1)))) (mC (.int 5))) (mNil)))) (mCall m_lw_taken (mCons (mVar 0) (mCons (mC (.int 2)) (mNil))))) (mNil)))))) (mCons (mC (.str "people")) (mCons (mC (.int 0)) (mNil)))))) (sSkip)) (sSeq (sIf (mTest (mOp ltD (mVar 7) (mC (.int 5)))) (sSeq (sAsg (mCall m_lw_taken (mCons (mVar 0) (mCons (mOp addD (mCB (pureF minD) (mCons (mC (.int 5)) (mCons (mCB (pureF lenD) (mCons (mVar 4) (mNil))) (mNil)))) (mC (.int 1))) (mNil)))) (tNm 9)) (sSeq (sAsg (mOp addD (mOp addD (mSl (mVar 4) (mNoP) (mPart (mVar 9))) (mLst (mCons (mCall (mRow m_lw_bad_door) (mCons (mVar 0) (mCons (mVar 2) (mNil)))) (mNil)))) (mSl (mVar 4) (mPart (mVar 9)) (mPart (mC (.int 5))))) (tNm 10)) (sRet (mTup (mCons (mTup (mCons (mVar 2) (mCons (mVar 3) (mCons (mVar 10) (mCons (mOp addD (mSl (mVar 5) (mNoP) (mPart (mC (.int 1)))) (mOp mulD (mLst (mCons (mTup (mCons (mC (.str "")) (mCons (mC (.int 0)) (mCons (mC (.int 0)) (mCons (mC (.int 0)) (mCons (mC (.int 0)) (mCons (mTup (mNil)) (mCons (mTup (mNil)) (mNil))))))))) (mNil))) (mOp subD (mVar 7) (mC (.int 3))))) (mNil)))))) (mCons (mC (.str "door")) (mCons (mVar 9) (mNil)))))))) (sSkip)) (sSeq (sAsg (mCall m_lw_taken (mCons (mVar 0) (mCons (mCB (pureF lenD) (mCons (mVar 5) (mNil))) (mNil)))) (tNm 9)) (sSeq (sIf (mTest (mOp ltD (mVar 7) (mC (.int 8)))) (sSeq (sAsg (mOp addD (mOp addD (mSl (mVar 5) (mNoP) (mPart (mVar 9))) (mLst (mCons (mCall (mRow m_lw_bad_person) (mCons (mVar 0) (mCons (mVar 1) (mCons (mVar 9) (mNil))))) (mNil)))) (mSl (mVar 5) (mPart (mOp addD (mVar 9) (mC (.int 1)))) (mNoP))) (tNm 10)) (sRet (mTup (mCons (mTup (mCons (mVar 2) (mCons (mVar 3) (mCons (mVar 4) (mCons (mVar 10) (mNil)))))) (mCons (mC (.str "person")) (mCons (mVar 9) (mNil))))))) (sSkip)) (sSeq (sIf (mAnd (mTest (mOp eqD (mVar 7) (mC (.int 8)))) (mTest (mOp ltD (mCB (pureF lenD) (mCons (mVar 5) (mNil))) (mC (.int 4))))) (sRet (mTup (mCons (mTup (mCons (mVar 2) (mCons (mVar 3) (mCons (mVar 4) (mCons (mOp addD (mVar 5) (mLst (mCons (mOp ixD (mVar 5) (mVar 9)) (mNil)))) (mNil)))))) (mCons (mC (.str "person")) (mCons (mCB (pureF lenD) (mCons (mVar 5) (mNil))) (mNil)))))) (sSkip)) (sSeq (sAsg (mLcC [12] (mItems (mVar 5)) (tNm 12) (mYes) (mOp addD (mOp addD (mSl (mVar 12) (mNoP) (mPart (mC (.int 1)))) (mTup (mCons (mC (.int 0)) (mNil)))) (mSl (mVar 12) (mPart (mC (.int 2))) (mNoP)))) (tNm 11)) (sSeq (sIf (mTest (mOp eqD (mVar 2) (mC (.int 1)))) (sRet (mTup (mCons (mTup (mCons (mC (.int 0)) (mCons (mVar 3) (mCons (mVar 4) (mCons (mVar 5) (mNil)))))) (mCons (mC (.str "house")) (mCons (mC (.int 0)) (mNil)))))) (sSkip)) (sSeq (sPut (mVar 11) (mVar 9) (mTup (mCons (mOp ixD (mOp ixD (mVar 11) (mVar 9)) (mC (.int 0))) (mCons (mC (.int 1)) (mCons (mNeg (mC (.int 1))) (mCons (mC (.int 0)) (mCons (mC (.int 0)) (mCons (mTup (mNil)) (mCons (mTup (mCons (mC (.int 1)) (mNil))) (mNil)))))))))) (sSeq (sIf (mTest (mOp eqD (mVar 7) (mC (.int 9)))) (sPut (mVar 11) (mVar 9) (mTup (mCons (mOp ixD (mOp ixD (mVar 11) (mVar 9)) (mC (.int 0))) (mCons (mC (.int 1)) (mCons (mNeg (mC (.int 1))) (mCons (mC (.int 4)) (mCons (mC (.int 0)) (mCons (mTup (mNil)) (mCons (mTup (mNil)) (mNil)))))))))) (sSkip)) (sSeq (sFrz 11) (sRet (mTup (mCons (mTup (mCons (mVar 2) (mCons (mVar 3) (mCons (mVar 4) (mCons (mVar 11) (mNil)))))) (mCons (mC (.str "left")) (mCons (mVar 9) (mNil)))))))))))))))))))))
/-- refused(house_here); slots: house_here e others -/
def m_lw_refused_11 : Phi := mBody 1 3 (sSeq (sTry (sDrop (mCall (mPure m_lw_made_01) (mCons (mVar 0) (mNil)))) (exT 7) 1 (sSeq (sAsg (mCB (pureF isED) (mCons (mVar 1) (mCons (mTup (mCons (mC (.cls 3)) (mCons (mC (.cls 6)) (mCons (mC (.cls 4)) (mCons (mC (.cls 5)) (mNil)))))) (mNil)))) (tNm 2)) (sIf (mAnd (mTest (mCB (pureF isED) (mCons (mVar 1) (mCons (mC (.cls 2)) (mNil))))) (mAnd (mTest (mCB (pureF isED) (mCons (mVar 1) (mCons (mC (.ty "ValueError")) (mNil))))) (mNot (mTest (mVar 2))))) (sRet (mTup (mCons (mXf "word" (mVar 1)) (mCons (mXf "number" (mVar 1)) (mNil))))) (sSkip)))) (sRet (mC .non)))
/-- House.doors(self); slots: self -/
def m_House_doorsC : Phi := mBody 1 1 (sRet (mCB listC (mCons (mFld 0 2 (mVar 0)) (mNil))))
/-- House.people(self); slots: self -/
def m_House_peopleC : Phi := mBody 1 1 (sRet (mCB listC (mCons (mFld 0 3 (mVar 0)) (mNil))))
/-- law(script); slots: script row house_here handed told turn wrong_here word number people great -/
def m_law_11 : Phi := mBody 1 11 (sSeq (sAsg (mLstC (mCons (mVar 0) (mCons (mC (.int 0)) (mCons (mC (.int 0)) (mNil))))) (tNm 1)) (sSeq (sAsg (mCall (mRow m_lw_house) (mCons (mVar 1) (mNil))) (tNm 2)) (sSeq (sAsg (mLst (mCons (mCB listC (mCons (mOp ixD (mVar 2) (mC (.int 2))) (mNil))) (mCons (mCB listC (mCons (mOp ixD (mVar 2) (mC (.int 3))) (mNil))) (mNil)))) (tNm 3)) (sSeq (sAsg (mFrz (mMake 0 m_House_init_01 (mCons (mOp ixD (mVar 2) (mC (.int 0))) (mCons (mOp ixD (mVar 2) (mC (.int 1))) (mCons (mOp ixD (mVar 3) (mC (.int 0))) (mCons (mOp ixD (mVar 3) (mC (.int 1))) (mNil))))))) (tNm 4)) (sSeq (sIf (mTest (mOp neD (mVar 3) (mLst (mCons (mOp ixD (mVar 2) (mC (.int 2))) (mCons (mOp ixD (mVar 2) (mC (.int 3))) (mNil)))))) (sRet (mC (.bl false))) (sSkip)) (sSeq (sFor (mRng1 (mCons (mC (.int 2)) (mNil))) (tNm 5) (sSeq (sIf (mOr (mTest (mOp neD (mMeth 0 (mPure (mFz m_House_doorsC)) (mVar 4) mNil) (mOp ixD (mVar 2) (mC (.int 2))))) (mTest (mOp neD (mMeth 0 (mPure (mFz m_House_peopleC)) (mVar 4) mNil) (mOp ixD (mVar 2) (mC (.int 3)))))) (sRet (mC (.bl false))) (sSkip)) (sSeq (sDrop (mBM isCell appF (mMeth 0 m_House_doorsC (mVar 4) mNil) (mCons (mC (.int 0)) (mNil)))) (sSeq (sDrop (mBM isCell clearF (mMeth 0 m_House_peopleC (mVar 4) mNil) mNil)) (sSeq (sDrop (mBM isCell clearF (mOp ixD (mVar 3) (mC (.int 0))) mNil)) (sDrop (mBM isCell clearF (mOp ixD (mVar 3) (mC (.int 1))) mNil))))))) (sSeq (sAsg (mCall (mRow m_lw_wrong) (mCons (mVar 1) (mCons (mVar 2) (mNil)))) (tTp 3 (tsCons (tNm 6) (tsCons (tNm 7) (tsCons (tNm 8) (tsNil)))))) (sSeq (sIf (mTest (mOp neD (mCall (mPure m_lw_refused_11) (mCons (mVar 6) (mNil))) (mTup (mCons (mVar 7) (mCons (mVar 8) (mNil)))))) (sRet (mC (.bl false))) (sSkip)) (sSeq (sAsg (mLstC (mCons (mTup (mCons (mC (.str "abcdefgh")) (mCons (mC (.int 3)) (mCons (mNeg (mC (.int 1))) (mCons (mC (.int 4)) (mCons (mC (.int 8)) (mCons (mTup (mCons (mC (.int 1)) (mCons (mC (.int 2)) (mCons (mC (.int 3)) (mNil))))) (mCons (mTup (mNil)) (mNil))))))))) (mCons (mTup (mCons (mC (.str "b")) (mCons (mC (.int 0)) (mCons (mC (.int 3)) (mCons (mC (.int 0)) (mCons (mC (.int 0)) (mCons (mTup (mNil)) (mCons (mTup (mCons (mC (.int 1)) (mCons (mC (.int 2)) (mCons (mC (.int 3)) (mNil))))) (mNil))))))))) (mCons (mTup (mCons (mC (.str "c")) (mCons (mC (.int 3)) (mCons (mC (.int 0)) (mCons (mC (.int 4)) (mCons (mC (.int 8)) (mCons (mTup (mNil)) (mCons (mTup (mCons (mC (.int 3)) (mNil))) (mNil))))))))) (mNil))))) (tNm 9)) (sSeq (sDrop (mBM isCell appF (mVar 9) (mCons (mTup (mCons (mC (.str "d")) (mCons (mC (.int 2)) (mCons (mC (.int 2)) (mCons (mC (.int 0)) (mCons (mC (.int 8)) (mCons (mTup (mCons (mC (.int 2)) (mNil))) (mCons (mTup (mCons (mC (.int 1)) (mCons (mC (.int 3)) (mNil)))) (mNil))))))))) (mNil)))) (sSeq (sFrz 9) (sSeq (sAsg (mTup (mCons (mC (.int 4)) (mCons (mC (.int 8)) (mCons (mOp mulD (mLst (mCons (mTup (mCons (mC (.int 0)) (mCons (mC (.int 3)) (mCons (mC (.int 4)) (mCons (mC (.int 0)) (mCons (mC (.int 8)) (mNil))))))) (mCons (mTup (mCons (mC (.int 2)) (mCons (mC (.int 3)) (mCons (mC (.int 1)) (mCons (mC (.int 7)) (mCons (mC (.int 8)) (mNil))))))) (mCons (mTup (mCons (mC (.int 0)) (mCons (mC (.int 1)) (mCons (mC (.int 1)) (mCons (mC (.int 0)) (mCons (mC (.int 1)) (mNil))))))) (mNil))))) (mC (.int 2))) (mCons (mVar 9) (mNil)))))) (tNm 10)) (sRet (mAndV (mOp isD (mCall (mPure m_lw_refused_11) (mCons (mVar 10) (mNil))) (mC .non)) (mOp isD (mCall (mPure m_lw_refused_11) (mCons (mTup (mCons (mC (.int 1)) (mCons (mC (.int 0)) (mCons (mLst (mNil)) (mCons (mLst (mCons (mTup (mCons (mC (.str "a")) (mCons (mC (.int 0)) (mCons (mC (.int 0)) (mCons (mC (.int 0)) (mCons (mC (.int 0)) (mCons (mTup (mNil)) (mCons (mTup (mNil)) (mNil))))))))) (mNil))) (mNil)))))) (mNil))) (mC .non))))))))))))))))
end Eb

/-! Eb: what the defs compute. Printed by gen.py. -/
namespace Eb
open PySem
/-- goings(house, step); slots: house step person -/
def m_goings : Phi := mBody 2 3 (sSeq (sIf (mTest (mOp eqD (mVar 1) (mC (.tup [.str "wait"])))) (sRet (mC (.int 0))) (sSkip)) (sRet (mCB (pureF lenD) (mCons (mLc [2] (mItems (mOp ixD (mVar 1) (mC (.int 2)))) (tNm 2) (mTest (mOp gtD (mOp ixD (mOp ixD (mFld 0 3 (mVar 0)) (mVar 2)) (mC (.int 3))) (mC (.int 0)))) (mVar 2)) (mNil)))))
/-- Search.go_on(self, hour); slots: self hour least by state step other many -/
def m_Search_go_on : Phi := mBody 2 8 (sSeq (sAsg (mDicN) (tNm 2)) (sSeq (sAsg (mDicN) (tNm 3)) (sSeq (sFor (mItems (mCB (pureF sortDD) (mCons (mOp ixD (mFld 1 2 (mVar 0)) (mNeg (mC (.int 1)))) (mNil)))) (tNm 4) (sFor (mItems (mCall (mPure (mFz m_steps_at_02)) (mCons (mFld 1 0 (mVar 0)) (mCons (mVar 1) (mCons (mVar 4) (mNil)))))) (tNm 5) (sSeq (sAsg (mCall (mPure m_behind) (mCons (mFld 1 0 (mVar 0)) (mCons (mVar 4) (mCons (mVar 5) (mNil))))) (tNm 6)) (sSeq (sAsg (mOp addD (mOp dgetD (mOp ixD (mFld 1 2 (mVar 0)) (mNeg (mC (.int 1)))) (mVar 4)) (mCall (mPure m_goings) (mCons (mFld 1 0 (mVar 0)) (mCons (mVar 5) (mNil))))) (tNm 7)) (sIf (mOr (mTest (mOp dninD (mVar 6) (mVar 2))) (mTest (mOp ltD (mVar 7) (mOp dgetD (mVar 2) (mVar 6))))) (sSeq (sPutD (mVar 2) (mVar 6) (mVar 7)) (sPutD (mVar 3) (mVar 6) (mTup (mCons (mVar 4) (mCons (mVar 5) (mNil)))))) (sSkip)))))) (sSeq (sFrzD 3) (sSeq (sFrzD 2) (sSeq (sDrop (mBM isCell appF (mFld 1 2 (mVar 0)) (mCons (mVar 2) (mNil)))) (sDrop (mBM isCell appF (mFld 1 3 (mVar 0)) (mCons (mVar 3) (mNil))))))))))
/-- Search.__init__(self, house, hour, state); slots: self house hour state now -/
def m_Search_init : Phi := mBody 4 5 (sSeq (sFldM 1 0 (mVar 0) (mVar 1)) (sSeq (sFldM 1 1 (mVar 0) (mVar 2)) (sSeq (sFldM 1 2 (mVar 0) (mLstC (mCons (mDic1 (mVar 3) (mC (.int 0))) (mNil)))) (sSeq (sFldM 1 3 (mVar 0) (mLstC (mCons (mDic1 (mVar 3) (mC .non)) (mNil)))) (sFor (mRng2 (mCons (mVar 2) (mCons (mFld 0 1 (mVar 1)) (mNil)))) (tNm 4) (sDrop (mMeth 1 m_Search_go_on (mVar 0) (mCons (mVar 4) (mNil)))))))))
/-- is_met(house, state); slots: house state person -/
def m_is_met : Phi := mBody 2 3 (sSeq (sFor (mRng1 (mCons (mCB (pureF lenD) (mCons (mVar 1) (mNil))) (mNil))) (tNm 2) (sIf (mTest (mOp notinD (mOp ixD (mOp ixD (mFld 0 3 (mVar 0)) (mVar 2)) (mC (.int 2))) (mTup (mCons (mNeg (mC (.int 1))) (mCons (mOp ixD (mVar 1) (mVar 2)) (mNil)))))) (sRet (mC (.bl false))) (sSkip))) (sRet (mC (.bl true))))
/-- Search.best(self); slots: self found at state key -/
def m_Search_best : Phi := mBody 1 5 (sSeq (sAsg (mC .non) (tNm 1)) (sSeq (sFor (mRng1 (mCons (mCB (pureF lenD) (mCons (mFld 1 2 (mVar 0)) (mNil))) (mNil))) (tNm 2) (sFor (mItems (mCB (pureF sortDD) (mCons (mOp ixD (mFld 1 2 (mVar 0)) (mVar 2)) (mNil)))) (tNm 3) (sSeq (sAsg (mTup (mCons (mOp dgetD (mOp ixD (mFld 1 2 (mVar 0)) (mVar 2)) (mVar 3)) (mCons (mVar 2) (mCons (mVar 3) (mNil))))) (tNm 4)) (sIf (mAnd (mTest (mCall (mPure m_is_met) (mCons (mFld 1 0 (mVar 0)) (mCons (mVar 3) (mNil))))) (mOr (mTest (mOp isD (mVar 1) (mC .non))) (mTest (mOp lt3D (mVar 4) (mVar 1))))) (sAsg (mVar 4) (tNm 1)) (sSkip))))) (sRet (mVar 1))))
/-- Search.plan_to(self, at, state); slots: self at state found step -/
def m_Search_plan_to : Phi := mBody 3 5 (sSeq (sAsg (mLstC (mNil)) (tNm 3)) (sSeq (loopW (mTest (mOp gtD (mVar 1) (mC (.int 0)))) (sSeq (sAsg (mOp dgetD (mOp ixD (mFld 1 3 (mVar 0)) (mVar 1)) (mVar 2)) (tTp 2 (tsCons (tNm 2) (tsCons (tNm 4) (tsNil))))) (sSeq (sDrop (mBM isCell appF (mVar 3) (mCons (mVar 4) (mNil)))) (sAsg (mOp subD (mVar 1) (mC (.int 1))) (tNm 1)))) 100) (sSeq (sFrz 3) (sRet (mRevL (mVar 3))))))
/-- Search.table(self); slots: self row state -/
def m_Search_table : Phi := mBody 1 3 (sRet (mLc [1] (mItems (mFld 1 2 (mVar 0))) (tNm 1) (mYes) (mLc [2] (mItems (mCB (pureF sortDD) (mCons (mVar 1) (mNil)))) (tNm 2) (mYes) (mTup (mCons (mVar 2) (mCons (mOp dgetD (mVar 1) (mVar 2)) (mNil)))))))
/-- fewest(house); slots: house search best -/
def m_fewest : Phi := mBody 1 3 (sSeq (sAsg (mFrzO (mMake 1 m_Search_init (mCons (mVar 0) (mCons (mC (.int 0)) (mCons (mCall (mPure m_begin) (mCons (mVar 0) (mNil))) (mNil)))))) (tNm 1)) (sSeq (sAsg (mMeth 1 (mPure m_Search_best) (mVar 1) mNil) (tNm 2)) (sSeq (sIf (mTest (mOp isD (mVar 2) (mC .non))) (sRet (mTup (mCons (mC (.str "none")) (mCons (mMeth 1 (mPure m_Search_table) (mVar 1) mNil) (mNil))))) (sSkip)) (sRet (mTup (mCons (mC (.str "plan")) (mCons (mMeth 1 (mPure m_Search_plan_to) (mVar 1) (mCons (mOp ixD (mVar 2) (mC (.int 1))) (mCons (mOp ixD (mVar 2) (mC (.int 2))) (mNil)))) (mCons (mOp ixD (mVar 2) (mC (.int 0))) (mCons (mMeth 1 (mPure m_Search_table) (mVar 1) mNil) (mNil))))))))))
/-- easier(row, house_here); slots: row house_here zones hours doors people way at name begin_zone goal most since free_here led k one other wide opens shuts more eased zone -/
def m_lw_easier : Phi := mBody 2 24 (sSeq (sAsg (mVar 1) (tTp 4 (tsCons (tNm 2) (tsCons (tNm 3) (tsCons (tNm 4) (tsCons (tNm 5) (tsNil))))))) (sSeq (sAsg (mCall m_lw_taken (mCons (mVar 0) (mCons (mC (.int 6)) (mNil)))) (tNm 6)) (sSeq (sAsg (mCall m_lw_taken (mCons (mVar 0) (mCons (mCB (pureF lenD) (mCons (mVar 5) (mNil))) (mNil)))) (tNm 7)) (sSeq (sAsg (mOp ixD (mVar 5) (mVar 7)) (tTp 7 (tsCons (tNm 8) (tsCons (tNm 9) (tsCons (tNm 10) (tsCons (tNm 11) (tsCons (tNm 12) (tsCons (tNm 13) (tsCons (tNm 14) (tsNil)))))))))) (sSeq (sIf (mAnd (mTest (mOp eqD (mVar 6) (mC (.int 0)))) (mTest (mOp neD (mVar 4) (mLst (mNil))))) (sSeq (sAsg (mCall m_lw_taken (mCons (mVar 0) (mCons (mCB (pureF lenD) (mCons (mVar 4) (mNil))) (mNil)))) (tNm 15)) (sSeq (sAsg (mOp ixD (mVar 4) (mVar 15)) (tTp 5 (tsCons (tNm 16) (tsCons (tNm 17) (tsCons (tNm 18) (tsCons (tNm 19) (tsCons (tNm 20) (tsNil)))))))) (sSeq (sAsg (mOp ixD (mLst (mCons (mTup (mCons (mVar 16) (mCons (mVar 17) (mCons (mC (.int 4)) (mCons (mVar 19) (mCons (mVar 20) (mNil))))))) (mCons (mTup (mCons (mVar 16) (mCons (mVar 17) (mCons (mVar 18) (mCons (mC (.int 0)) (mCons (mC (.int 8)) (mNil))))))) (mNil)))) (mCall m_lw_taken (mCons (mVar 0) (mCons (mC (.int 2)) (mNil))))) (tNm 21)) (sRet (mTup (mCons (mVar 2) (mCons (mVar 3) (mCons (mOp addD (mOp addD (mSl (mVar 4) (mNoP) (mPart (mVar 15))) (mLst (mCons (mVar 21) (mNil)))) (mSl (mVar 4) (mPart (mOp addD (mVar 15) (mC (.int 1)))) (mNoP))) (mCons (mVar 5) (mNil)))))))))) (sSkip)) (sSeq (sIf (mAnd (mTest (mOp eqD (mVar 6) (mC (.int 1)))) (mAnd (mTest (mOp gtD (mVar 2) (mC (.int 1)))) (mTest (mOp ltD (mCB (pureF lenD) (mCons (mVar 4) (mNil))) (mC (.int 6)))))) (sRet (mTup (mCons (mVar 2) (mCons (mVar 3) (mCons (mOp addD (mVar 4) (mLst (mCons (mTup (mCons (mC (.int 0)) (mCons (mOp subD (mVar 2) (mC (.int 1))) (mCons (mC (.int 4)) (mCons (mC (.int 0)) (mCons (mC (.int 8)) (mNil))))))) (mNil)))) (mCons (mVar 5) (mNil))))))) (sSkip)) (sSeq (sIf (mTest (mOp eqD (mVar 6) (mC (.int 2)))) (sAsg (mCB (pureF tupleD) (mCons (mLc [23] (mRng2 (mCons (mC (.int 1)) (mCons (mVar 2) (mNil)))) (tNm 23) (mTest (mOp notinD (mVar 23) (mVar 13))) (mVar 23)) (mNil))) (tNm 14)) (sSkip)) (sSeq (sIf (mTest (mOp eqD (mVar 6) (mC (.int 3)))) (sAsg (mC (.int 0)) (tNm 12)) (sSkip)) (sSeq (sIf (mTest (mOp eqD (mVar 6) (mC (.int 4)))) (sAsg (mNeg (mC (.int 1))) (tNm 10)) (sSkip)) (sSeq (sIf (mTest (mOp eqD (mVar 6) (mC (.int 5)))) (sRet (mTup (mCons (mVar 2) (mCons (mCB (pureF minD) (mCons (mC (.int 8)) (mCons (mOp addD (mVar 3) (mC (.int 1))) (mNil)))) (mCons (mVar 4) (mCons (mVar 5) (mNil))))))) (sSkip)) (sSeq (sAsg (mTup (mCons (mVar 8) (mCons (mVar 9) (mCons (mVar 10) (mCons (mVar 11) (mCons (mVar 12) (mCons (mVar 13) (mCons (mVar 14) (mNil))))))))) (tNm 22)) (sRet (mTup (mCons (mVar 2) (mCons (mVar 3) (mCons (mVar 4) (mCons (mOp addD (mOp addD (mSl (mVar 5) (mNoP) (mPart (mVar 7))) (mLst (mCons (mVar 22) (mNil)))) (mSl (mVar 5) (mPart (mOp addD (mVar 7) (mC (.int 1)))) (mNoP))) (mNil))))))))))))))))))
/-- law(script); slots: script row house_here one two hour least state number -/
def m_law_13 : Phi := mBody 1 9 (sSeq (sAsg (mLstC (mCons (mVar 0) (mCons (mC (.int 0)) (mCons (mC (.int 0)) (mNil))))) (tNm 1)) (sSeq (sAsg (mCall (mRow m_lw_house) (mCons (mVar 1) (mNil))) (tNm 2)) (sSeq (sAsg (mCall (mPure m_fewest) (mCons (mCall (mPure m_lw_made_01) (mCons (mVar 2) (mNil))) (mNil))) (tNm 3)) (sSeq (sAsg (mCall (mPure m_fewest) (mCons (mCall (mPure m_lw_made_01) (mCons (mCall (mRow m_lw_easier) (mCons (mVar 1) (mCons (mVar 2) (mNil)))) (mNil))) (mNil))) (tNm 4)) (sSeq (sIf (mAnd (mTest (mOp eqD (mOp ixD (mVar 3) (mC (.int 0))) (mC (.str "plan")))) (mOr (mTest (mOp neD (mOp ixD (mVar 4) (mC (.int 0))) (mC (.str "plan")))) (mTest (mOp gtD (mOp ixD (mVar 4) (mC (.int 2))) (mOp ixD (mVar 3) (mC (.int 2))))))) (sRet (mC (.bl false))) (sSkip)) (sSeq (sFor (mRng1 (mCons (mCB (pureF lenD) (mCons (mOp ixD (mVar 3) (mNeg (mC (.int 1)))) (mNil))) (mNil))) (tNm 5) (sSeq (sAsg (mCB (pureF dicPD) (mCons (mOp ixD (mOp ixD (mVar 4) (mNeg (mC (.int 1)))) (mVar 5)) (mNil))) (tNm 6)) (sFor (mItems (mOp ixD (mOp ixD (mVar 3) (mNeg (mC (.int 1)))) (mVar 5))) (tTp 2 (tsCons (tNm 7) (tsCons (tNm 8) (tsNil)))) (sIf (mOr (mTest (mOp dninD (mVar 7) (mVar 6))) (mTest (mOp gtD (mOp dgetD (mVar 6) (mVar 7)) (mVar 8)))) (sRet (mC (.bl false))) (sSkip))))) (sRet (mC (.bl true)))))))))
/-- law(script); slots: script row house_here left_here order doors turn other one two turned pairs k state number -/
def m_law_12 : Phi := mBody 1 15 (sSeq (sAsg (mLstC (mCons (mVar 0) (mCons (mC (.int 0)) (mCons (mC (.int 0)) (mNil))))) (tNm 1)) (sSeq (sAsg (mCall (mRow m_lw_house) (mCons (mVar 1) (mNil))) (tNm 2)) (sSeq (sAsg (mLstRg (mCB (pureF lenD) (mCons (mOp ixD (mVar 2) (mC (.int 3))) (mNil)))) (tNm 3)) (sSeq (sAsg (mLstC (mNil)) (tNm 4)) (sSeq (loopW (mTest (mOp neD (mVar 3) (mLst (mNil)))) (sDrop (mBM isCell appF (mVar 4) (mCons (mBM isCell popF (mVar 3) (mCons (mCall m_lw_taken (mCons (mVar 1) (mCons (mCB (pureF lenD) (mCons (mVar 3) (mNil))) (mNil)))) (mNil))) (mNil)))) 100) (sSeq (sFrz 3) (sSeq (sFrz 4) (sSeq (sAsg (mCB listC (mCons (mOp ixD (mVar 2) (mC (.int 2))) (mNil))) (tNm 5)) (sSeq (sAsg (mCall m_lw_taken (mCons (mVar 1) (mCons (mOp addD (mCB (pureF lenD) (mCons (mVar 5) (mNil))) (mC (.int 1))) (mNil)))) (tNm 6)) (sSeq (sAsg (mAddC (mSl (mVar 5) (mPart (mVar 6)) (mNoP)) (mSl (mVar 5) (mNoP) (mPart (mVar 6)))) (tNm 5)) (sSeq (sIf (mAnd (mTest (mOp neD (mVar 5) (mLst (mNil)))) (mAnd (mTest (mOp ltD (mCB (pureF lenD) (mCons (mVar 5) (mNil))) (mC (.int 6)))) (mTest (mOp eqD (mCall m_lw_taken (mCons (mVar 1) (mCons (mC (.int 2)) (mNil)))) (mC (.int 1)))))) (sDrop (mBM isCell appF (mVar 5) (mCons (mOp ixD (mVar 5) (mC (.int 0))) (mNil)))) (sSkip)) (sSeq (sFrz 5) (sSeq (sAsg (mTup (mCons (mOp ixD (mVar 2) (mC (.int 0))) (mCons (mOp ixD (mVar 2) (mC (.int 1))) (mCons (mVar 5) (mCons (mLc [12] (mItems (mVar 4)) (tNm 12) (mYes) (mOp ixD (mOp ixD (mVar 2) (mC (.int 3))) (mVar 12))) (mNil)))))) (tNm 7)) (sSeq (sAsg (mCall (mPure m_fewest) (mCons (mCall (mPure m_lw_made_01) (mCons (mVar 2) (mNil))) (mNil))) (tNm 8)) (sSeq (sAsg (mCall (mPure m_fewest) (mCons (mCall (mPure m_lw_made_01) (mCons (mVar 7) (mNil))) (mNil))) (tNm 9)) (sSeq (sIf (mOr (mTest (mOp neD (mOp ixD (mVar 8) (mC (.int 0))) (mOp ixD (mVar 9) (mC (.int 0))))) (mAnd (mTest (mOp eqD (mOp ixD (mVar 8) (mC (.int 0))) (mC (.str "plan")))) (mTest (mOp neD (mOp ixD (mVar 8) (mC (.int 2))) (mOp ixD (mVar 9) (mC (.int 2))))))) (sRet (mC (.bl false))) (sSkip)) (sSeq (sAsg (mLstC (mNil)) (tNm 10)) (sSeq (sFor (mItems (mOp ixD (mVar 8) (mNeg (mC (.int 1))))) (tNm 11) (sDrop (mBM isCell appF (mVar 10) (mCons (mCB (pureF sortPD) (mCons (mLc [13, 14] (mItems (mVar 11)) (tTp 2 (tsCons (tNm 13) (tsCons (tNm 14) (tsNil)))) (mYes) (mTup (mCons (mCB (pureF tupleD) (mCons (mLc [12] (mItems (mVar 4)) (tNm 12) (mYes) (mOp ixD (mVar 13) (mVar 12))) (mNil))) (mCons (mVar 14) (mNil))))) (mNil))) (mNil))))) (sSeq (sFrz 10) (sRet (mOp eqD (mVar 10) (mOp ixD (mVar 9) (mNeg (mC (.int 1)))))))))))))))))))))))))
end Eb

/-! Eb: reckoning with the meanings. -/
namespace Eb
open PySem L2
open Classical in
/-- data without truth values, cells and objects -/
noncomputable def same (x y : D) : Bool := decide (x = y)
def pl : Nat → D → Bool
  | 0, _ => false
  | _ + 1, .non => true
  | _ + 1, .int _ => true
  | _ + 1, .str x => PyData.strOk x
  | n + 1, .tup ds => ds.all (pl n)
  | n + 1, .lst ds => ds.all (pl n)
  | _ + 1, _ => false
theorem allM_pl {mu : Mu} {n : Nat} (h : ∀ d, pl n d = true → ∃ p, pyD mu n d = some p ∧ p.canLay0 = true ∧ p.depth ≤ n) : ∀ ds : List D, ds.all (pl n) = true → ∃ ps, allM (pyD mu n) ds = some ps ∧ PyData.canLayAll0 ps = true ∧ PyData.depthAll ps ≤ n
  | [], _ => ⟨[], rfl, rfl, Nat.zero_le _⟩
  | d :: ds, e => by
    rw [List.all_cons, Bool.and_eq_true] at e
    obtain ⟨p, h1, h2, h3⟩ := h d e.1
    obtain ⟨ps, g1, g2, g3⟩ := allM_pl h ds e.2
    refine ⟨p :: ps, ?_, ?_, ?_⟩
    · show (match pyD mu n d with | some p => (allM (pyD mu n) ds).map (p :: ·) | none => none) = _
      rw [h1, g1]; rfl
    · simp [PyData.canLayAll0, h2, g2]
    · simp [PyData.depthAll]; omega
theorem pyD_pl {mu : Mu} : ∀ (n : Nat) (d : D), pl n d = true → ∃ p, pyD mu n d = some p ∧ p.canLay0 = true ∧ p.depth ≤ n
  | 0, _, h => by cases h
  | n + 1, .non, _ => ⟨_, rfl, rfl, Nat.zero_le _⟩
  | n + 1, .int i, _ => ⟨_, rfl, rfl, Nat.zero_le _⟩
  | n + 1, .str x, h => ⟨_, rfl, h, Nat.zero_le _⟩
  | n + 1, .tup ds, h => by
    obtain ⟨ps, g1, g2, g3⟩ := allM_pl (pyD_pl n) ds h
    refine ⟨.tuple ps, ?_, g2, by simp [PyData.depth]; omega⟩
    show (allM (pyD mu n) ds).map PyData.tuple = _
    rw [g1]; rfl
  | n + 1, .lst ds, h => by
    obtain ⟨ps, g1, g2, g3⟩ := allM_pl (pyD_pl n) ds h
    refine ⟨.list ps, ?_, g2, by simp [PyData.depth]; omega⟩
    show (allM (pyD mu n) ds).map PyData.list = _
    rw [g1]; rfl
  | n + 1, .bl _, h => by cases h
  | n + 1, .ins _ _, h => by cases h
  | n + 1, .set _, h => by cases h
  | n + 1, .cel _, h => by cases h
  | n + 1, .scr _, h => by cases h
  | n + 1, .ty _, h => by cases h
  | n + 1, .cls _, h => by cases h
theorem eqvAll_pl {mu : Mu} {n : Nat} (h : ∀ d e p q, pl n d = true → pl n e = true → pyD mu n d = some p → pyD mu n e = some q → (PyData.eqv p q = true ↔ d = e)) :
    ∀ (ds es : List D) (ps qs : List PyData), ds.all (pl n) = true → es.all (pl n) = true → allM (pyD mu n) ds = some ps → allM (pyD mu n) es = some qs → (PyData.eqvAll ps qs = true ↔ ds = es)
  | [], [], ps, qs, _, _, e1, e2 => by cases (Option.some.inj e1); cases (Option.some.inj e2); simp [PyData.eqvAll]
  | [], e :: es, ps, qs, _, h2, e1, e2 => by
    cases (Option.some.inj e1)
    have e2 : (match pyD mu n e with | some p => (allM (pyD mu n) es).map (p :: ·) | none => none) = some qs := e2
    split at e2
    · cases ha : allM (pyD mu n) es with
      | none => rw [ha] at e2; cases e2
      | some r => rw [ha] at e2; cases (Option.some.inj e2); simp [PyData.eqvAll]
    · cases e2
  | d :: ds, [], ps, qs, h1, _, e1, e2 => by
    cases (Option.some.inj e2)
    have e1 : (match pyD mu n d with | some p => (allM (pyD mu n) ds).map (p :: ·) | none => none) = some ps := e1
    split at e1
    · cases ha : allM (pyD mu n) ds with
      | none => rw [ha] at e1; cases e1
      | some r => rw [ha] at e1; cases (Option.some.inj e1); simp [PyData.eqvAll]
    · cases e1
  | d :: ds, e :: es, ps, qs, h1, h2, e1, e2 => by
    have e1 : (match pyD mu n d with | some p => (allM (pyD mu n) ds).map (p :: ·) | none => none) = some ps := e1
    have e2 : (match pyD mu n e with | some p => (allM (pyD mu n) es).map (p :: ·) | none => none) = some qs := e2
    rw [List.all_cons, Bool.and_eq_true] at h1 h2
    cases hp : pyD mu n d with
    | none => rw [hp] at e1; cases e1
    | some p =>
      cases hq : pyD mu n e with
      | none => rw [hq] at e2; cases e2
      | some q =>
        rw [hp] at e1
        rw [hq] at e2
        cases ha : allM (pyD mu n) ds with
        | none => simp [ha] at e1
        | some r =>
          cases hb : allM (pyD mu n) es with
          | none => simp [hb] at e2
          | some t =>
            simp [ha] at e1
            simp [hb] at e2
            subst e1 e2
            have i1 := h d e p q h1.1 h2.1 hp hq
            have i2 := eqvAll_pl h ds es r t h1.2 h2.2 ha hb
            simp [PyData.eqvAll, i1, i2]
theorem eqv_pl {mu : Mu} : ∀ (n : Nat) (d e : D) (p q : PyData), pl n d = true → pl n e = true → pyD mu n d = some p → pyD mu n e = some q → (PyData.eqv p q = true ↔ d = e)
  | 0, d, _, _, _, h, _, _, _ => by cases h
  | n + 1, d, e, p, q, h1, h2, e1, e2 => by
    cases d <;> (try (cases h1; done)) <;> cases e <;> (try (cases h2; done))
    all_goals
      first
        | (simp [pyD] at e1 e2; subst e1 e2; simp [PyData.eqv]; done)
        | (simp only [pyD] at e1 e2
           simp only [Option.map_eq_some_iff, Option.some.injEq] at e1 e2
           first
            | (obtain ⟨a, ea, rfl⟩ := e1; obtain ⟨b, eb, rfl⟩ := e2; simp [PyData.eqv, eqvAll_pl (eqv_pl n) _ _ _ _ h1 h2 ea eb]; done)
            | (obtain ⟨a, ea, rfl⟩ := e1; subst e2; simp [PyData.eqv]; done)
            | (obtain ⟨b, eb, rfl⟩ := e2; subst e1; simp [PyData.eqv]; done))
theorem eqB_pl {mu : Mu} {x y : D} (hx : pl 12 x = true) (hy : pl 12 y = true) : eqB mu x y = some (same x y) := by
  obtain ⟨p, h1, h2, h3⟩ := pyD_pl (mu := mu) 12 x hx
  obtain ⟨q, g1, g2, g3⟩ := pyD_pl (mu := mu) 12 y hy
  unfold eqB
  rw [h1, g1]
  have s1 : SeqAt.shaped p = true := by simp [SeqAt.shaped, h2]; omega
  have s2 : SeqAt.shaped q = true := by simp [SeqAt.shaped, g2]; omega
  show (if (SeqAt.shaped p && SeqAt.shaped q) = true then some (PyData.eqv p q) else none) = _
  rw [s1, s2, Bool.and_self, if_pos rfl]
  congr 1
  have := eqv_pl 12 x y p q hx hy h1 g1
  unfold same
  cases he : PyData.eqv p q with
  | true => simp [this.mp he]
  | false =>
    have : ¬ x = y := fun z => by rw [this.mpr z] at he; cases he
    simp [this]
end Eb

/-! Eb: reckoning with the meanings, step by step. -/
namespace Eb
open PySem L2
section
variable {α β : Type} {m : M α} {k : α → M β} {rh r1 : Rho} {mu mu1 : Mu} {a : α} {i : Nat} {d x y z o : D} {ds es : List D}
theorem bindM_ok (h : m rh mu = some (.ok a, mu1)) : bindM m k rh mu = k a rh mu1 := by unfold bindM; rw [h]
theorem bindS_ok {k : α → MS} (h : m rh mu = some (.ok a, mu1)) : bindS m k rh mu = k a rh mu1 := by unfold bindS; rw [h]
def thenM (o : Option (Rs α × Mu)) (k : α → Mu → Option (Rs β × Mu)) : Option (Rs β × Mu) := match o with | some (.ok a, mu1) => k a mu1 | some (.er x, mu1) => some (.er x, mu1) | none => none
def thenB (rh : Rho) (o : Option (Rs α × Mu)) (k : α → Mu → Option (Out × Mu)) : Option (Out × Mu) := match o with | some (.ok a, mu1) => k a mu1 | some (.er x, mu1) => some (.er x rh, mu1) | none => none
def thenS (o : Option (Out × Mu)) (k : Rho → Mu → Option (Out × Mu)) : Option (Out × Mu) := match o with | some (.nx r, mu1) => k r mu1 | o => o
def fin (o : Option (Out × Mu)) : Option (Rs D × Mu) := match o with | some (.nx _, mu') => some (.ok .non, mu') | some (.rt d, mu') => some (.ok d, mu') | some (.er x _, mu') => some (.er x, mu') | _ => none
section
variable {kM : α → Mu → Option (Rs β × Mu)} {kB : α → Mu → Option (Out × Mu)} {kS : Rho → Mu → Option (Out × Mu)} {c : Prop} [Decidable c] {x : Exn} {oM oM' : Option (Rs α × Mu)} {oS oS' : Option (Out × Mu)}
@[simp] theorem tM_ok : thenM (some (.ok a, mu)) kM = kM a mu := rfl
@[simp] theorem tM_er : thenM (some (.er x, mu)) kM = some (.er x, mu) := rfl
@[simp] theorem tM_ite : thenM (if c then oM else oM') kM = if c then thenM oM kM else thenM oM' kM := by split <;> rfl
@[simp] theorem tB_ok : thenB rh (some (.ok a, mu)) kB = kB a mu := rfl
@[simp] theorem tB_er : thenB rh (some (.er x, mu)) kB = some (.er x rh, mu) := rfl
@[simp] theorem tB_ite : thenB rh (if c then oM else oM') kB = if c then thenB rh oM kB else thenB rh oM' kB := by split <;> rfl
@[simp] theorem tS_nx : thenS (some (.nx rh, mu)) kS = kS rh mu := rfl
@[simp] theorem tS_rt {d : D} : thenS (some (.rt d, mu)) kS = some (.rt d, mu) := rfl
@[simp] theorem tS_er : thenS (some (.er x rh, mu)) kS = some (.er x rh, mu) := rfl
@[simp] theorem tS_ite : thenS (if c then oS else oS') kS = if c then thenS oS kS else thenS oS' kS := by split <;> rfl
@[simp] theorem fin_nx : fin (some (.nx rh, mu)) = some (.ok .non, mu) := rfl
@[simp] theorem fin_rt {d : D} : fin (some (.rt d, mu)) = some (.ok d, mu) := rfl
@[simp] theorem fin_er : fin (some (.er x rh, mu)) = some (.er x, mu) := rfl
@[simp] theorem fin_ite : fin (if c then oS else oS') = if c then fin oS else fin oS' := by split <;> rfl
end
@[simp] theorem v_bindM : bindM m k rh mu = thenM (m rh mu) fun a mu1 => k a rh mu1 := rfl
@[simp] theorem v_bindS {k : α → MS} : bindS m k rh mu = thenB rh (m rh mu) fun a mu1 => k a rh mu1 := rfl
@[simp] theorem v_var : mVar i rh mu = (match rh[i]? with | some (some d) => some (.ok d, mu) | _ => none) := rfl
@[simp] theorem v_c : mC d rh mu = some (.ok d, mu) := rfl
@[simp] theorem v_ret : retM a rh mu = some (.ok a, mu) := rfl
@[simp] theorem v_lift {f : Mu → Option α} : lift f rh mu = (f mu).map fun a => (.ok a, mu) := rfl
@[simp] theorem v_op {f : Mu → D → D → Option D} {ma mb : ME} : mOp f ma mb rh mu = bindM ma (fun x => bindM mb fun y => lift fun mu => f mu x y) rh mu := rfl
@[simp] theorem v_test {ma : ME} : mTest ma rh mu = bindM ma (fun d => lift fun _ => boolOf d) rh mu := rfl
@[simp] theorem v_bool {b : Bool} : boolOf (.bl b) = some b := rfl
@[simp] theorem v_and {t u : M Bool} : mAnd t u rh mu = bindM t (fun c => if c = true then u else retM false) rh mu := rfl
@[simp] theorem v_or {t u : M Bool} : mOr t u rh mu = bindM t (fun c => if c = true then retM true else u) rh mu := rfl
@[simp] theorem v_not {t : M Bool} : mNot t rh mu = bindM t (fun c => retM (!c)) rh mu := rfl
@[simp] theorem v_andV {ma mb : ME} : mAndV ma mb rh mu = bindM (mTest ma) (fun c => if c = true then mb else retM (.bl false)) rh mu := rfl
@[simp] theorem v_orV {ma mb : ME} : mOrV ma mb rh mu = bindM (mTest ma) (fun c => if c = true then retM (.bl true) else mb) rh mu := rfl
@[simp] theorem v_notV {ma : ME} : mNotV ma rh mu = bindM (mTest ma) (fun c => retM (.bl (!c))) rh mu := rfl
@[simp] theorem v_if {t : M Bool} {ma mb : ME} : mIf t ma mb rh mu = bindM t (fun c => if c = true then ma else mb) rh mu := rfl
@[simp] theorem v_ch {f f' : Mu → D → D → Option D} {ma mb mc : ME} : mCh f f' ma mb mc rh mu = bindM ma (fun x => bindM mb fun y => bindM (lift fun mu => (f mu x y).bind boolOf) fun k => if k = true then bindM mc fun z => lift fun mu => f' mu y z else retM (.bl false)) rh mu := rfl
@[simp] theorem v_ch3 {f f' f2 : Mu → D → D → Option D} {ma mb mc md : ME} : mCh3 f f' f2 ma mb mc md rh mu = (bindM ma fun x => bindM mb fun y => bindM (lift fun mu => (f mu x y).bind boolOf) fun k => if k = true then
    bindM mc fun z => bindM (lift fun mu => (f' mu y z).bind boolOf) fun k => if k = true then bindM md fun u => lift fun mu => f2 mu z u else retM (.bl false)
  else retM (.bl false)) rh mu := rfl
@[simp] theorem v_nil : mNil rh mu = some (.ok [], mu) := rfl
@[simp] theorem v_cons {ma : ME} {mr : M (List D)} : mCons ma mr rh mu = bindM ma (fun d => bindM mr fun ds => retM (d :: ds)) rh mu := rfl
@[simp] theorem v_tup {mr : M (List D)} : mTup mr rh mu = bindM mr (fun ds => lift fun _ => (few ds).map .tup) rh mu := rfl
@[simp] theorem v_lst {mr : M (List D)} : mLst mr rh mu = bindM mr (fun ds => lift fun _ => (few ds).map .lst) rh mu := rfl
@[simp] theorem few_ok (h : ds.length ≤ 100000) : few ds = some ds := if_pos h
@[simp] theorem v_fld {c i : Nat} {ma : ME} : mFld c i ma rh mu = bindM ma (fun d => lift fun mu => (insOf mu d).bind fun p => if p.1 = c then p.2[i]? else none) rh mu := rfl
@[simp] theorem v_call {f : Phi} {mr : M (List D)} : mCall f mr rh mu = bindM mr (fun ds _ mu => f ds mu) rh mu := rfl
@[simp] theorem v_cb {h : CallF} {mr : M (List D)} : mCB h mr rh mu = bindM mr (fun ds _ mu => (h ds mu).map fun p => (.ok p.1, p.2)) rh mu := rfl
@[simp] theorem v_pureF {f : Mu → List D → Option D} : pureF f ds mu = (f mu ds).map fun d => (d, mu) := rfl
@[simp] theorem v_sl {ma : ME} {ml mh : M (Option Int)} : mSl ma ml mh rh mu = bindM ma (fun x => bindM ml fun lo => bindM mh fun hi => lift fun mu => slD mu x lo hi) rh mu := rfl
@[simp] theorem v_part {ma : ME} : mPart ma rh mu = bindM ma (fun d => lift fun _ => match d with | .int i => some (some i) | _ => none) rh mu := rfl
@[simp] theorem v_noP : mNoP rh mu = some (.ok none, mu) := rfl
@[simp] theorem v_items {ma : ME} : mItems ma rh mu = bindM ma (fun d => lift fun _ => itemsOf d) rh mu := rfl
@[simp] theorem v_rng1 {mr : M (List D)} : mRng1 mr rh mu = bindM mr (fun ds => lift fun _ => rng1 ds) rh mu := rfl
@[simp] theorem v_rng2 {mr : M (List D)} : mRng2 mr rh mu = bindM mr (fun ds => lift fun _ => rng2 ds) rh mu := rfl
@[simp] theorem v_neg {ma : ME} : mNeg ma rh mu = bindM ma (fun d => lift fun _ => match d with | .int i => some (.int (-i)) | _ => none) rh mu := rfl
@[simp] theorem v_bm {chk : Mu → D → Bool} {f : MtF} {mo : ME} {mr : M (List D)} : mBM chk f mo mr rh mu = bindM mo (fun o => bindM (lift fun mu => if chk mu o then some () else none) fun _ => bindM mr fun ds _ mu => (f o ds mu).map fun p => (.ok p.1, p.2)) rh mu := rfl
@[simp] theorem v_yes : mYes rh mu = some (.ok true, mu) := rfl
theorem v_ite {γ : Type} {c : Prop} [Decidable c] {f g : Rho → Mu → γ} : (if c then f else g) rh mu = if c then f rh mu else g rh mu := by split <;> rfl
@[simp] theorem v_iteE {c : Prop} [Decidable c] {f g : ME} : (if c then f else g) rh mu = if c then f rh mu else g rh mu := v_ite
@[simp] theorem v_iteT {c : Prop} [Decidable c] {f g : M Bool} : (if c then f else g) rh mu = if c then f rh mu else g rh mu := v_ite
@[simp] theorem v_ok {c : Prop} [Decidable c] {a b : α} : (if c then some (Rs.ok a, mu) else some (Rs.ok b, mu)) = some (Rs.ok (if c then a else b), mu) := by split <;> rfl
@[simp] theorem v_iteB {c : Prop} [Decidable c] {a b : Bool} : (if c then D.bl a else D.bl b) = D.bl (if c then a else b) := by split <;> rfl
-- statements
@[simp] theorem v_skip : sSkip rh mu = some (.nx rh, mu) := rfl
@[simp] theorem v_seq {a b : MS} : sSeq a b rh mu = thenS (a rh mu) b := rfl
@[simp] theorem v_iteS {c : Prop} [Decidable c] {f g : MS} : (if c then f else g) rh mu = if c then f rh mu else g rh mu := v_ite
@[simp] theorem v_asg {ma : ME} {t : Tg} : sAsg ma t rh mu = bindS ma (fun d rh mu => (t d rh).map fun r => (.nx r, mu)) rh mu := rfl
@[simp] theorem v_drop {ma : ME} : sDrop ma rh mu = bindS ma (fun _ => sSkip) rh mu := rfl
@[simp] theorem v_retS {ma : ME} : sRet ma rh mu = bindS ma (fun d _ mu => some (.rt d, mu)) rh mu := rfl
@[simp] theorem v_retN : sRetN rh mu = some (.rt .non, mu) := rfl
@[simp] theorem v_ifS {t : M Bool} {a b : MS} : sIf t a b rh mu = bindS t (fun c => if c = true then a else b) rh mu := rfl
@[simp] theorem v_for {it : M (List D)} {t : Tg} {b : MS} : sFor it t b rh mu = bindS it (fun ds => loopS t b ds) rh mu := rfl
@[simp] theorem v_nm : tNm i d rh = some (rh.set i (some d)) := rfl
@[simp] theorem v_tsNil : tsNil [] rh = some rh := rfl
@[simp] theorem v_tsCons {t : Tg} {u : Tgs} : tsCons t u (d :: ds) rh = (t d rh).bind (u ds) := rfl
@[simp] theorem v_tp {n : Nat} {u : Tgs} : tTp n u (.tup ds) rh = if ds.length = n then u ds rh else none := rfl
@[simp] theorem v_body {np n : Nat} {b : MS} : mBody np n b ds mu = if ds.length = np then fin (b (ds.map some ++ List.replicate (n - np) none) mu) else none := rfl
@[simp] theorem v_put {mo mi mv : ME} : sPut mo mi mv rh mu = bindS mv (fun y => bindS mo fun o => bindS mi fun i rh mu => (stIx o i y mu).map fun mu' => (.nx rh, mu')) rh mu := rfl
@[simp] theorem v_stIx {k : Nat} {j : Int} : stIx (.cel k) (.int j) y mu = (match mu[k]? with | some (.lst ds) => (ixN ds.length j).map fun n => mu.set k (.lst (ds.set n y)) | _ => none) := rfl
@[simp] theorem v_listC : listC [.tup ds] mu = some (.cel mu.length, mu ++ [.lst ds]) := rfl
@[simp] theorem v_listCl : listC [.lst ds] mu = some (.cel mu.length, mu ++ [.lst ds]) := rfl
@[simp] theorem v_lstC {mr : M (List D)} : mLstC mr rh mu = bindM mr (fun ds _ mu => (few ds).map fun es => (.ok (.cel mu.length), mu ++ [.lst es])) rh mu := rfl
@[simp] theorem v_frz : sFrz i rh mu = (match rh[i]? with | some (some d) => (frzD d mu).map fun p => (.nx (rh.set i (some p.1)), p.2) | _ => none) := rfl
@[simp] theorem v_frzM {ma : ME} : mFrz ma rh mu = bindM ma (fun d _ mu => (frzD d mu).map fun p => (.ok p.1, p.2)) rh mu := rfl
@[simp] theorem v_frzD {k : Nat} : frzD (.cel k) mu = (match mu[k]? with | some (.lst ds) => some (.lst ds, mu.set k .dead) | some (.ins c ds) => some (.ins c ds, mu.set k .dead) | _ => none) := rfl
@[simp] theorem v_app {k : Nat} : appF (.cel k) [d] mu = (match mu[k]? with | some (.lst xs) => if xs.length < 100000 then some (.non, mu.set k (.lst (xs ++ [d]))) else none | _ => none) := rfl
@[simp] theorem v_isCell {k : Nat} : isCell mu (.cel k) = (match mu[k]? with | some (.lst _) => true | _ => false) := rfl
@[simp] theorem v_stF {c i : Nat} {mo mv : ME} : sFldM c i mo mv rh mu = bindS mv (fun y => bindS mo fun o rh mu => (stF c i o y mu).map fun mu' => (.nx rh, mu')) rh mu := rfl
@[simp] theorem v_stFc {c i k : Nat} : stF c i (.cel k) y mu = (match mu[k]? with
    | some (.ins c' ds) => if c' = c then (if i < ds.length then some (mu.set k (.ins c (ds.set i y))) else if i = ds.length then some (mu.set k (.ins c (ds ++ [y]))) else none) else none
    | _ => none) := rfl
@[simp] theorem v_meth {c : Nat} {f : Phi} {ma : ME} {mr : M (List D)} : mMeth c f ma mr rh mu = bindM ma (fun o => bindM (lift fun mu => (insOf mu o).bind fun p => if p.1 = c then some () else none) fun _ => bindM mr fun ds _ mu => f (o :: ds) mu) rh mu := rfl
@[simp] theorem v_insC {k : Nat} : insOf mu (.cel k) = (match mu[k]? with | some (.ins c ds) => some (c, ds) | _ => none) := rfl
@[simp] theorem v_insI {c : Nat} : insOf mu (.ins c ds) = some (c, ds) := rfl
@[simp] theorem v_ixC {k : Nat} {j : Int} : ixD mu (.cel k) (.int j) = (match mu[k]? with | some (.lst ds) => atI ds j | _ => none) := by
  show (match (match mu[k]? with | some (.lst ds) => some ds | _ => none) with | some ds => atI ds j | none => none) = _
  cases mu[k]? with
  | none => rfl
  | some c => cases c <;> rfl
@[simp] theorem c_get {c : Cell} : (mu ++ [c])[mu.length]? = some c := by simp
@[simp] theorem c_set {c c' : Cell} : (mu ++ [c]).set mu.length c' = mu ++ [c'] := by
  rw [List.set_append_right _ _ (Nat.le_refl _)]
  simp
@[simp] theorem v_rng3 {mr : M (List D)} : mRng3 mr rh mu = bindM mr (fun ds => lift fun _ => rng3 ds) rh mu := rfl
theorem o_neC {k : Nat} (h : mu[k]? = some (.lst ds)) : neD mu (.cel k) y = neD mu (.lst ds) y := by
  have : pyD mu 12 (.cel k) = pyD mu 12 (.lst ds) := by
    show (match mu[k]? with | some (.lst ds) => (allM (pyD mu 11) ds).map PyData.list | _ => none) = _
    rw [h]
    rfl
  unfold neD eqB
  rw [this]
-- operations
@[simp] theorem o_add {a b : Int} : addD mu (.int a) (.int b) = some (.int (a + b)) := rfl
@[simp] theorem o_addS {a b : Str} : addD mu (.str a) (.str b) = lim (a.length + b.length) (.str (a ++ b)) := rfl
@[simp] theorem o_addT : addD mu (.tup ds) (.tup es) = lim (ds.length + es.length) (.tup (ds ++ es)) := rfl
@[simp] theorem o_addL : addD mu (.lst ds) (.lst es) = lim (ds.length + es.length) (.lst (ds ++ es)) := rfl
theorem lim_ok {n : Nat} (h : n ≤ 100000) : lim n d = some d := if_pos h
@[simp] theorem o_sub {a b : Int} : subD mu (.int a) (.int b) = some (.int (a - b)) := rfl
@[simp] theorem o_mul {a b : Int} : mulD mu (.int a) (.int b) = if smallI a || smallI b then some (.int (a * b)) else none := rfl
@[simp] theorem o_mod {a b : Int} : modD mu (.int a) (.int b) = if 0 < b then some (.int (a % b)) else none := rfl
@[simp] theorem o_div {a b : Int} : fdivD mu (.int a) (.int b) = if 0 < b ∧ b < 1000000000 then some (.int (a / b)) else none := rfl
@[simp] theorem o_lt {a b : Int} : ltD mu (.int a) (.int b) = some (.bl (decide (a < b))) := rfl
@[simp] theorem o_le {a b : Int} : leD mu (.int a) (.int b) = some (.bl (decide (a ≤ b))) := rfl
@[simp] theorem o_gt {a b : Int} : gtD mu (.int a) (.int b) = some (.bl (decide (b < a))) := rfl
@[simp] theorem o_ge {a b : Int} : geD mu (.int a) (.int b) = some (.bl (decide (b ≤ a))) := rfl
@[simp] theorem o_eq {a b : Int} : eqD mu (.int a) (.int b) = some (.bl (decide (a = b))) := by
  unfold eqD
  rw [eqB_pl rfl rfl]
  simp [same]
@[simp] theorem o_ne {a b : Int} : neD mu (.int a) (.int b) = some (.bl (decide (a ≠ b))) := by
  unfold neD
  rw [eqB_pl rfl rfl]
  simp [same]
theorem o_eqP (hx : pl 12 x = true) (hy : pl 12 y = true) : eqD mu x y = some (.bl (same x y)) := by
  unfold eqD
  rw [eqB_pl hx hy]
  rfl
theorem o_neP (hx : pl 12 x = true) (hy : pl 12 y = true) : neD mu x y = some (.bl (!same x y)) := by
  unfold neD
  rw [eqB_pl hx hy]
  rfl
@[simp] theorem o_is : isD mu x .non = some (.bl (nonB x)) := by cases x <;> rfl
@[simp] theorem o_isnot : isnotD mu x .non = some (.bl (!nonB x)) := by cases x <;> rfl
@[simp] theorem nonB_non : nonB .non = true := rfl
@[simp] theorem nonB_int {a : Int} : nonB (.int a) = false := rfl
@[simp] theorem nonB_tup : nonB (.tup ds) = false := rfl
@[simp] theorem o_ixT {a : Int} : ixD mu (.tup ds) (.int a) = atI ds a := rfl
@[simp] theorem o_ixL {a : Int} : ixD mu (.lst ds) (.int a) = atI ds a := rfl
@[simp] theorem o_ixR {ns : List Int} {a : Int} : ixD mu (.scr ns) (.int a) = (atI ns a).map .int := rfl
@[simp] theorem o_ixS {z : Str} {a : Int} : ixD mu (.str z) (.int a) = if z.length ≤ 100000 then (atI z.cps.toList a).map fun c => .str ⟨#[c]⟩ else none := rfl
theorem lstOf_c {k : Nat} (h : mu[k]? = some (.lst ds)) : lstOf mu (.cel k) = some ds := by
  show (match mu[k]? with | some (.lst ds) => some ds | _ => none) = _
  rw [h]
theorem o_ixC {a : Int} {k : Nat} (h : mu[k]? = some (.lst ds)) : ixD mu (.cel k) (.int a) = atI ds a := by
  show (match lstOf mu (.cel k) with | some ds => atI ds a | none => none) = _
  rw [lstOf_c h]
@[simp] theorem o_lenT : lenD mu [.tup ds] = some (.int ds.length) := rfl
@[simp] theorem o_lenL : lenD mu [.lst ds] = some (.int ds.length) := rfl
@[simp] theorem o_lenR {ns : List Int} : lenD mu [.scr ns] = some (.int ns.length) := rfl
@[simp] theorem o_lenS {z : Str} : lenD mu [.str z] = if z.length ≤ 100000 then some (.int z.length) else none := rfl
@[simp] theorem o_listT : listD mu [.tup ds] = some (.lst ds) := rfl
@[simp] theorem o_listL : listD mu [.lst ds] = some (.lst ds) := rfl
@[simp] theorem o_tupT : tupleD mu [.tup ds] = some (.tup ds) := rfl
@[simp] theorem o_tupL : tupleD mu [.lst ds] = some (.tup ds) := rfl
@[simp] theorem o_sumL : sumD mu [.lst ds] = (intsOf ds).map fun (ns : List Int) => .int ns.sum := rfl
@[simp] theorem o_intI {a : Int} : intD mu [.int a] = some (.int a) := rfl
@[simp] theorem o_intB {b : Bool} : intD mu [.bl b] = some (.int (if b then 1 else 0)) := rfl
@[simp] theorem o_itL : itemsOf (.lst ds) = some ds := rfl
@[simp] theorem o_itT : itemsOf (.tup ds) = some ds := rfl
@[simp] theorem o_slT {lo hi : Option Int} : slD mu (.tup ds) lo hi = some (.tup (cutL ds lo hi)) := rfl
@[simp] theorem o_slL {lo hi : Option Int} : slD mu (.lst ds) lo hi = some (.lst (cutL ds lo hi)) := rfl
end
/-! ### lists of ints -/
abbrev dI (l : List Int) : List D := l.map .int
abbrev dN (l : List Nat) : List D := l.map fun (n : Nat) => .int (n : Int)
theorem ixN_lit {n : Nat} {j : Nat} (h : j < n) : ixN n (j : Int) = some j := by
  unfold ixN
  rw [if_pos (by omega), if_pos (by omega)]
  simp
@[simp] theorem ixN_1 {n : Nat} : ixN (n + 1 + 1) 1 = some 1 := ixN_lit (j := 1) (by omega)
@[simp] theorem ixN_2 {n : Nat} : ixN (n + 1 + 1 + 1) 2 = some 2 := ixN_lit (j := 2) (by omega)
theorem atI_nat {α : Type} {l : List α} {n : Nat} : atI l (n : Int) = l[n]? := by
  unfold atI ixN
  rw [if_pos (Int.natCast_nonneg n)]
  by_cases h : n < l.length
  · rw [if_pos (by omega)]
    simp
  · rw [if_neg (by omega), List.getElem?_eq_none (by omega)]
    rfl
@[simp] theorem atI_n {α : Type} {l : List α} {n : Nat} : atI l (n : Int) = l[n]? := atI_nat
@[simp] theorem atI_0 {α : Type} {l : List α} : atI l 0 = l[0]? := atI_nat (n := 0)
@[simp] theorem atI_1 {α : Type} {l : List α} : atI l 1 = l[1]? := atI_nat (n := 1)
@[simp] theorem atI_2 {α : Type} {l : List α} : atI l 2 = l[2]? := atI_nat (n := 2)
@[simp] theorem atI_3 {α : Type} {l : List α} : atI l 3 = l[3]? := atI_nat (n := 3)
@[simp] theorem atI_4 {α : Type} {l : List α} : atI l 4 = l[4]? := atI_nat (n := 4)
@[simp] theorem atI_5 {α : Type} {l : List α} : atI l 5 = l[5]? := atI_nat (n := 5)
@[simp] theorem atI_6 {α : Type} {l : List α} : atI l 6 = l[6]? := atI_nat (n := 6)
theorem vsOf_I : ∀ l : List Int, vsOf (dI l) = some (l.map V.int)
  | [] => rfl
  | i :: l => by
    show (match vOf (.int i) with | some v => (vsOf (dI l)).map (v :: ·) | none => none) = _
    rw [vsOf_I l]
    rfl
theorem inV_I (a : Int) (l : List Int) : inV (.int a) (l.map V.int) = decide (a ∈ l) := by
  unfold inV
  induction l with
  | nil => rfl
  | cons b l ih =>
    rw [List.map_cons, List.any_cons, ih]
    show ((b == a) || _) = _
    by_cases h : a = b
    · simp [h]
    · have : (b == a) = false := by simpa using fun z => h z.symm
      rw [this]
      simp [h]
theorem inB_I {mu : Mu} {a : Int} {l : List Int} : inB mu (.int a) (.lst (dI l)) = some (decide (a ∈ l)) := by
  show ((vsOf (dI l)).map fun vs => inV (.int a) vs) = _
  rw [vsOf_I, Option.map_some, inV_I]
theorem inB_T {mu : Mu} {a : Int} {l : List Int} : inB mu (.int a) (.tup (dI l)) = some (decide (a ∈ l)) := by
  show ((vsOf (dI l)).map fun vs => inV (.int a) vs) = _
  rw [vsOf_I, Option.map_some, inV_I]
@[simp] theorem o_inL {mu : Mu} {a : Int} {l : List Int} : inD mu (.int a) (.lst (dI l)) = some (.bl (decide (a ∈ l))) := by unfold inD; rw [inB_I]; rfl
@[simp] theorem o_inT {mu : Mu} {a : Int} {l : List Int} : inD mu (.int a) (.tup (dI l)) = some (.bl (decide (a ∈ l))) := by unfold inD; rw [inB_T]; rfl
@[simp] theorem o_ninL {mu : Mu} {a : Int} {l : List Int} : notinD mu (.int a) (.lst (dI l)) = some (.bl (decide (a ∉ l))) := by unfold notinD; rw [inB_I]; simp
@[simp] theorem o_ninT {mu : Mu} {a : Int} {l : List Int} : notinD mu (.int a) (.tup (dI l)) = some (.bl (decide (a ∉ l))) := by unfold notinD; rw [inB_T]; simp
theorem dN_I (l : List Nat) : dN l = dI (l.map fun (n : Nat) => (n : Int)) := by simp [dI, dN, Function.comp_def]
theorem mem_cast {n : Nat} {l : List Nat} : (n : Int) ∈ l.map (fun (n : Nat) => (n : Int)) ↔ n ∈ l := by
  rw [List.mem_map]
  constructor
  · rintro ⟨a, h, e⟩
    have : a = n := by omega
    exact this ▸ h
  · exact fun h => ⟨n, h, rfl⟩
@[simp] theorem o_inLN {mu : Mu} {n : Nat} {l : List Nat} : inD mu (.int n) (.lst (dN l)) = some (.bl (decide (n ∈ l))) := by rw [dN_I, o_inL]; simp [mem_cast]
@[simp] theorem o_inTN {mu : Mu} {n : Nat} {l : List Nat} : inD mu (.int n) (.tup (dN l)) = some (.bl (decide (n ∈ l))) := by rw [dN_I, o_inT]; simp [mem_cast]
@[simp] theorem o_ninLN {mu : Mu} {n : Nat} {l : List Nat} : notinD mu (.int n) (.lst (dN l)) = some (.bl (decide (n ∉ l))) := by rw [dN_I, o_ninL]; simp [mem_cast]
@[simp] theorem o_ninTN {mu : Mu} {n : Nat} {l : List Nat} : notinD mu (.int n) (.tup (dN l)) = some (.bl (decide (n ∉ l))) := by rw [dN_I, o_ninT]; simp [mem_cast]
@[simp] theorem intsOf_I : ∀ l : List Int, intsOf (dI l) = some l
  | [] => rfl
  | i :: l => by
    show (intsOf (dI l)).map (i :: ·) = _
    rw [intsOf_I l]; rfl
theorem rngD_0 (n : Nat) : rngD 0 n = dN (List.range n) := by simp [rngD, dN]
@[simp] theorem r_1 {n : Nat} (h : n ≤ 1000000) : rng1 [.int (n : Int)] = some (dN (List.range n)) := by
  show (if -1000000 ≤ (n : Int) ∧ (n : Int) ≤ 1000000 then some (rngD 0 (n : Int).toNat) else none) = _
  rw [if_pos (by omega), Int.toNat_natCast, rngD_0]
@[simp] theorem intsOf_M {α : Type} (f : α → Int) : ∀ l : List α, intsOf (l.map fun a => .int (f a)) = some (l.map f)
  | [] => rfl
  | i :: l => by
    show (intsOf (l.map fun a => .int (f a))).map (f i :: ·) = _
    rw [intsOf_M f l]; rfl
theorem pl_I (n : Nat) (l : List Int) : (dI l).all (pl (n + 1)) = true := by
  rw [List.all_map, List.all_eq_true]
  intro a _
  rfl
theorem same_nil (ds : List D) : same (.lst ds) (.lst []) = ds.isEmpty := by
  unfold same
  cases ds <;> simp
theorem same_nilT (ds : List D) : same (.tup ds) (.tup []) = ds.isEmpty := by
  unfold same
  cases ds <;> simp
@[simp] theorem o_neNilI {mu : Mu} {l : List Int} : neD mu (.lst (dI l)) (.lst []) = some (.bl (!l.isEmpty)) := by
  rw [o_neP (by exact pl_I 10 l) rfl, same_nil]
  simp
@[simp] theorem o_neNilN {mu : Mu} {l : List Nat} : neD mu (.lst (dN l)) (.lst []) = some (.bl (!l.isEmpty)) := by
  rw [dN_I, o_neNilI]
  simp
/-! ### comprehensions and loops -/
@[simp] theorem fil_true {α : Type} {l : List α} : l.filter (fun _ => true) = l := List.filter_eq_self.mpr fun _ _ => rfl
section
variable {t : Tg} {c : M Bool} {m : ME} {rh0 : Rho} {mu : Mu} {own : List Nat} {it : M (List D)} {rh : Rho}
/-- a comprehension over data that a function makes -/
theorem lc_map {α : Type} {ds : List α} {f : α → D} {j : Nat} (p : α → Bool) (g : α → D) (hc : ∀ a ∈ ds, c (rh0.set j (some (f a))) mu = some (.ok (p a), mu)) (hm : ∀ a ∈ ds, p a = true → m (rh0.set j (some (f a))) mu = some (.ok (g a), mu)) :
    lcLoop (tNm j) c m rh0 (ds.map f) mu = some (((ds.filter p).map g), mu) := by
  induction ds with
  | nil => rfl
  | cons a ds ih =>
    have h1 := hc a List.mem_cons_self
    have ih := ih (fun b hb => hc b (List.mem_cons_of_mem _ hb)) (fun b hb => hm b (List.mem_cons_of_mem _ hb))
    show (match c (rh0.set j (some (f a))) mu with
      | some (.ok true, mu1) => (match m (rh0.set j (some (f a))) mu1 with
        | some (.ok y, mu2) => (lcLoop (tNm j) c m rh0 (ds.map f) mu2).map fun (p : List D × Mu) => (y :: p.1, p.2)
        | _ => none)
      | some (.ok false, mu1) => lcLoop (tNm j) c m rh0 (ds.map f) mu1
      | _ => none) = _
    rw [h1]
    cases hp : p a with
    | true =>
      have h2 := hm a List.mem_cons_self hp
      simp only [h2, ih, Option.map_some, List.filter_cons, hp, if_true, List.map_cons]
    | false => simp only [ih, List.filter_cons, hp, Bool.false_eq_true, if_false]
theorem lc_ev {α : Type} {ds : List α} {f : α → D} {j : Nat} (p : α → Bool) (g : α → D) (hi : it rh mu = some (.ok (ds.map f), mu)) (hl : ds.length ≤ 100000) (hc : ∀ a ∈ ds, c ((wipeR rh [j]).set j (some (f a))) mu = some (.ok (p a), mu)) (hm : ∀ a ∈ ds, p a = true → m ((wipeR rh [j]).set j (some (f a))) mu = some (.ok (g a), mu)) :
    mLc [j] it (tNm j) c m rh mu = some (.ok (.lst ((ds.filter p).map g)), mu) := by
  unfold mLc
  rw [bindM_ok hi]
  simp only [lc_map p g hc hm]
  rw [few_ok (by rw [List.length_map]; exact Nat.le_trans (List.length_filter_le _ _) hl)]
  rfl
theorem loop_find {α : Type} {ds : List α} {f : α → D} {j : Nat} {b : MS} (I : Rho → Prop) (p : α → Bool) (g : α → D)
    (hs : ∀ a ∈ ds, ∀ rh, I rh → (p a = true → b (rh.set j (some (f a))) mu = some (.rt (g a), mu)) ∧ (p a = false → ∃ r', b (rh.set j (some (f a))) mu = some (.nx r', mu) ∧ I r')) {rh : Rho} (h0 : I rh) :
    match ds.find? p with
    | some a => loopS (tNm j) b (ds.map f) rh mu = some (.rt (g a), mu)
    | none => ∃ r', loopS (tNm j) b (ds.map f) rh mu = some (.nx r', mu) ∧ I r' := by
  induction ds generalizing rh with
  | nil => exact ⟨rh, rfl, h0⟩
  | cons a ds ih =>
    obtain ⟨h1, h2⟩ := hs a List.mem_cons_self rh h0
    have un : loopS (tNm j) b ((a :: ds).map f) rh mu = (match b (rh.set j (some (f a))) mu with
      | some (.nx r, mu1) => loopS (tNm j) b (ds.map f) r mu1
      | some (.ct r, mu1) => loopS (tNm j) b (ds.map f) r mu1
      | some (.bk r, mu1) => some (.nx r, mu1)
      | o => o) := rfl
    cases hp : p a with
    | true =>
      rw [List.find?_cons_of_pos hp, un, h1 hp]
    | false =>
      obtain ⟨r', h3, h4⟩ := h2 hp
      rw [List.find?_cons_of_neg (by simp [hp]), un, h3]
      exact ih (fun b hb => hs b (List.mem_cons_of_mem _ hb)) h4
theorem seq_find {α : Type} {ds : List α} {f : α → D} {j : Nat} {b rest : MS} {it : M (List D)} {rh : Rho} {out : Option (Out × Mu)} (I : Rho → Prop) (p : α → Bool) (g : α → D) (hi : it rh mu = some (.ok (ds.map f), mu)) (h0 : I rh)
    (hs : ∀ a ∈ ds, ∀ rh, I rh → (p a = true → b (rh.set j (some (f a))) mu = some (.rt (g a), mu)) ∧ (p a = false → ∃ r', b (rh.set j (some (f a))) mu = some (.nx r', mu) ∧ I r'))
    (hr : ds.find? p = none → ∀ r', I r' → rest r' mu = out) : thenS (sFor it (tNm j) b rh mu) rest = match ds.find? p with | some a => some (.rt (g a), mu) | none => out := by
  have L := loop_find I p g hs h0
  have e : sFor it (tNm j) b rh mu = loopS (tNm j) b (ds.map f) rh mu := by
    show bindS it (fun ds => loopS (tNm j) b ds) rh mu = _
    rw [bindS_ok hi]
  rw [e]
  cases hf : ds.find? p with
  | some a => rw [hf] at L; simp only at L; rw [L]; rfl
  | none =>
    rw [hf] at L
    obtain ⟨r', h1, h2⟩ := L
    rw [h1]
    exact hr hf r' h2
theorem loop_fold {α σ : Type} {ds : List α} {f : α → D} {j : Nat} {b : MS} (F : σ → α → σ) (I : σ → Rho → Mu → Prop)
    (hs : ∀ a ∈ ds, ∀ s rh mu, I s rh mu → ∃ r' mu', b (rh.set j (some (f a))) mu = some (.nx r', mu') ∧ I (F s a) r' mu') {s : σ} {rh : Rho} {mu : Mu} (h0 : I s rh mu) :
    ∃ r' mu', loopS (tNm j) b (ds.map f) rh mu = some (.nx r', mu') ∧ I (ds.foldl F s) r' mu' := by
  induction ds generalizing s rh mu with
  | nil => exact ⟨rh, mu, rfl, h0⟩
  | cons a ds ih =>
    obtain ⟨r', mu', h1, h2⟩ := hs a List.mem_cons_self s rh mu h0
    have un : loopS (tNm j) b ((a :: ds).map f) rh mu = (match b (rh.set j (some (f a))) mu with
      | some (.nx r, mu1) => loopS (tNm j) b (ds.map f) r mu1
      | some (.ct r, mu1) => loopS (tNm j) b (ds.map f) r mu1
      | some (.bk r, mu1) => some (.nx r, mu1)
      | o => o) := rfl
    rw [un, h1]
    exact ih (fun b hb => hs b (List.mem_cons_of_mem _ hb)) h2
theorem seq_fold {α σ : Type} {ds : List α} {f : α → D} {j : Nat} {b rest : MS} {it : M (List D)} {rh : Rho} {mu mu1 : Mu} (F : σ → α → σ) (I : σ → Rho → Mu → Prop) (s : σ) (hi : it rh mu = some (.ok (ds.map f), mu1)) (h0 : I s rh mu1)
    (hs : ∀ a ∈ ds, ∀ s rh mu, I s rh mu → ∃ r' mu', b (rh.set j (some (f a))) mu = some (.nx r', mu') ∧ I (F s a) r' mu')
    (P : Option (Out × Mu) → Prop) (hr : ∀ r' mu', I (ds.foldl F s) r' mu' → P (rest r' mu')) : P (thenS (sFor it (tNm j) b rh mu) rest) := by
  obtain ⟨r', mu', h1, h2⟩ := loop_fold F I hs h0
  have e : sFor it (tNm j) b rh mu = loopS (tNm j) b (ds.map f) rh mu1 := by
    show bindS it (fun ds => loopS (tNm j) b ds) rh mu = _
    rw [bindS_ok hi]
  rw [e, h1]
  exact hr r' mu' h2
theorem seq_nx {α : Type} {ds : List α} {f : α → D} {j : Nat} {b rest : MS} {it : M (List D)} {rh : Rho} {mu mu1 : Mu} (I : Rho → Prop) (hi : it rh mu = some (.ok (ds.map f), mu1)) (h0 : I rh)
    (hs : ∀ a ∈ ds, ∀ rh, I rh → ∃ r', b (rh.set j (some (f a))) mu1 = some (.nx r', mu1) ∧ I r')
    (P : Option (Out × Mu) → Prop) (hr : ∀ r', I r' → P (rest r' mu1)) : P (thenS (sFor it (tNm j) b rh mu) rest) :=
  seq_fold (fun (_ : Unit) _ => ()) (fun _ rh mu => mu = mu1 ∧ I rh) () hi ⟨rfl, h0⟩ (fun a ha _ rh mu ⟨e, h⟩ => by
    subst e
    obtain ⟨r', h1, h2⟩ := hs a ha rh h
    exact ⟨r', _, h1, rfl, h2⟩) P fun r' mu' ⟨e, h⟩ => by
    subst e
    exact hr r' h
theorem loop_foldP {α σ : Type} {f : α → D} {j : Nat} {b : MS} (F : σ → α → σ) (I : σ → Rho → Mu → Prop) (s0 : σ) (ds : List α)
    (hs : ∀ pre a post, ds = pre ++ a :: post → ∀ rh mu, I (pre.foldl F s0) rh mu → ∃ r' mu', b (rh.set j (some (f a))) mu = some (.nx r', mu') ∧ I (F (pre.foldl F s0) a) r' mu') :
    ∀ (pre post : List α), ds = pre ++ post → ∀ {rh : Rho} {mu : Mu}, I (pre.foldl F s0) rh mu → ∃ r' mu', loopS (tNm j) b (post.map f) rh mu = some (.nx r', mu') ∧ I (ds.foldl F s0) r' mu'
  | pre, [], e, rh, mu, h => ⟨rh, mu, rfl, by rw [e, List.append_nil]; exact h⟩
  | pre, a :: post, e, rh, mu, h => by
    obtain ⟨r', mu', h1, h2⟩ := hs pre a post e rh mu h
    have un : loopS (tNm j) b ((a :: post).map f) rh mu = (match b (rh.set j (some (f a))) mu with
      | some (.nx r, mu1) => loopS (tNm j) b (post.map f) r mu1
      | some (.ct r, mu1) => loopS (tNm j) b (post.map f) r mu1
      | some (.bk r, mu1) => some (.nx r, mu1)
      | o => o) := rfl
    rw [un, h1]
    exact loop_foldP F I s0 ds hs (pre ++ [a]) post (by rw [e, List.append_assoc]; rfl) (by rw [List.foldl_append]; exact h2)
theorem seq_foldP {α σ : Type} {ds : List α} {f : α → D} {j : Nat} {b rest : MS} {it : M (List D)} {rh : Rho} {mu mu1 : Mu} (F : σ → α → σ) (I : σ → Rho → Mu → Prop) (s0 : σ) (hi : it rh mu = some (.ok (ds.map f), mu1)) (h0 : I s0 rh mu1)
    (hs : ∀ pre a post, ds = pre ++ a :: post → ∀ rh mu, I (pre.foldl F s0) rh mu → ∃ r' mu', b (rh.set j (some (f a))) mu = some (.nx r', mu') ∧ I (F (pre.foldl F s0) a) r' mu')
    (P : Option (Out × Mu) → Prop) (hr : ∀ r' mu', I (ds.foldl F s0) r' mu' → P (rest r' mu')) : P (thenS (sFor it (tNm j) b rh mu) rest) := by
  obtain ⟨r', mu', h1, h2⟩ := loop_foldP F I s0 ds hs [] ds rfl h0
  have e : sFor it (tNm j) b rh mu = loopS (tNm j) b (ds.map f) rh mu1 := by
    show bindS it (fun ds => loopS (tNm j) b ds) rh mu = _
    rw [bindS_ok hi]
  rw [e, h1]
  exact hr r' mu' h2
theorem loop_inv {α : Type} {f : α → D} {j : Nat} {b : MS} (I : Nat → Rho → Mu → Prop) : ∀ (ds : List α) (k : Nat),
    (∀ i a, ds[i]? = some a → ∀ rh mu, I (k + i) rh mu → ∃ r' mu', b (rh.set j (some (f a))) mu = some (.nx r', mu') ∧ I (k + i + 1) r' mu') → ∀ {rh : Rho} {mu : Mu}, I k rh mu → ∃ r' mu', loopS (tNm j) b (ds.map f) rh mu = some (.nx r', mu') ∧ I (k + ds.length) r' mu'
  | [], k, _, rh, mu, h => ⟨rh, mu, rfl, h⟩
  | a :: ds, k, hs, rh, mu, h => by
    obtain ⟨r', mu', h1, h2⟩ := hs 0 a rfl rh mu h
    have un : loopS (tNm j) b ((a :: ds).map f) rh mu = (match b (rh.set j (some (f a))) mu with
      | some (.nx r, mu1) => loopS (tNm j) b (ds.map f) r mu1
      | some (.ct r, mu1) => loopS (tNm j) b (ds.map f) r mu1
      | some (.bk r, mu1) => some (.nx r, mu1)
      | o => o) := rfl
    rw [un, h1]
    have := loop_inv I ds (k + 1) (fun i c hc rh mu h => by
      have := hs (i + 1) c hc rh mu (by rw [show k + (i + 1) = k + 1 + i by omega]; exact h)
      rw [show k + (i + 1) + 1 = k + 1 + i + 1 by omega] at this
      exact this) (rh := r') (mu := mu') h2
    rw [show k + (a :: ds).length = k + 1 + ds.length by simp; omega]
    exact this
theorem seq_inv {α : Type} {ds : List α} {f : α → D} {j : Nat} {b rest : MS} {it : M (List D)} {rh : Rho} {mu mu1 : Mu} (I : Nat → Rho → Mu → Prop) (hi : it rh mu = some (.ok (ds.map f), mu1)) (h0 : I 0 rh mu1)
    (hs : ∀ i a, ds[i]? = some a → ∀ rh mu, I i rh mu → ∃ r' mu', b (rh.set j (some (f a))) mu = some (.nx r', mu') ∧ I (i + 1) r' mu')
    (P : Option (Out × Mu) → Prop) (hr : ∀ r' mu', I ds.length r' mu' → P (rest r' mu')) : P (thenS (sFor it (tNm j) b rh mu) rest) := by
  obtain ⟨r', mu', h1, h2⟩ := loop_inv (j := j) (b := b) (f := f) I ds 0 (fun i a ha rh mu h => by
    rw [Nat.zero_add] at h ⊢
    exact hs i a ha rh mu h) h0
  rw [Nat.zero_add] at h2
  have e : sFor it (tNm j) b rh mu = loopS (tNm j) b (ds.map f) rh mu1 := by
    show bindS it (fun ds => loopS (tNm j) b ds) rh mu = _
    rw [bindS_ok hi]
  rw [e, h1]
  exact hr r' mu' h2
theorem lc_loopI {α β : Type} {f : α → D} {g : β → D} {j : Nat} {c : M Bool} {m : ME} {rh0 : Rho} (I : Nat → List β → Mu → Prop) : ∀ (ds : List α) (k : Nat) (bs : List β) (mu : Mu),
    (∀ i a, ds[i]? = some a → ∀ bs mu, I (k + i) bs mu → ∃ keep mu1, c (rh0.set j (some (f a))) mu = some (.ok keep, mu1) ∧ (keep = true → ∃ b mu', m (rh0.set j (some (f a))) mu1 = some (.ok (g b), mu') ∧ I (k + i + 1) (bs ++ [b]) mu') ∧ (keep = false → I (k + i + 1) bs mu1)) →
    I k bs mu → ∃ cs mu', lcLoop (tNm j) c m rh0 (ds.map f) mu = some (cs.map g, mu') ∧ I (k + ds.length) (bs ++ cs) mu' ∧ cs.length ≤ ds.length
  | [], k, bs, mu, _, h => ⟨[], mu, rfl, by rw [List.append_nil]; exact h, Nat.le_refl _⟩
  | a :: ds, k, bs, mu, hs, h => by
    obtain ⟨keep, mu1, h1, h2, h3⟩ := hs 0 a rfl bs mu h
    have un : lcLoop (tNm j) c m rh0 ((a :: ds).map f) mu = (match c (rh0.set j (some (f a))) mu with
      | some (.ok true, mu1) => (match m (rh0.set j (some (f a))) mu1 with
        | some (.ok y, mu2) => (lcLoop (tNm j) c m rh0 (ds.map f) mu2).map fun (p : List D × Mu) => (y :: p.1, p.2)
        | _ => none)
      | some (.ok false, mu1) => lcLoop (tNm j) c m rh0 (ds.map f) mu1
      | _ => none) := rfl
    have hs' : ∀ i d, ds[i]? = some d → ∀ bs mu, I (k + 1 + i) bs mu → ∃ keep mu1, c (rh0.set j (some (f d))) mu = some (.ok keep, mu1) ∧ (keep = true → ∃ b mu', m (rh0.set j (some (f d))) mu1 = some (.ok (g b), mu') ∧ I (k + 1 + i + 1) (bs ++ [b]) mu') ∧ (keep = false → I (k + 1 + i + 1) bs mu1) := fun i d hd bs mu h => by
      have := hs (i + 1) d hd bs mu (by rw [show k + (i + 1) = k + 1 + i by omega]; exact h)
      rw [show k + (i + 1) + 1 = k + 1 + i + 1 by omega] at this
      exact this
    have el : k + (a :: ds).length = k + 1 + ds.length := by simp; omega
    rw [un, h1, el]
    cases keep with
    | true =>
      obtain ⟨b, mu', h4, h5⟩ := h2 rfl
      obtain ⟨cs, mu2, q1, q2, q3⟩ := lc_loopI I ds (k + 1) (bs ++ [b]) mu' hs' h5
      refine ⟨b :: cs, mu2, ?_, by rw [List.append_assoc] at q2; exact q2, by simp; omega⟩
      simp only [h4, q1, Option.map_some, List.map_cons]
    | false =>
      obtain ⟨cs, mu2, q1, q2, q3⟩ := lc_loopI I ds (k + 1) bs mu1 hs' (h3 rfl)
      exact ⟨cs, mu2, q1, q2, by simp; omega⟩
/-- a comprehension whose parts change cells -/
theorem lc_inv {α β : Type} {ds : List α} {f : α → D} {g : β → D} {j : Nat} {c : M Bool} {m : ME} {rh : Rho} {mu mu0 : Mu} {it : M (List D)} (I : Nat → List β → Mu → Prop) (hi : it rh mu0 = some (.ok (ds.map f), mu)) (hl : ds.length ≤ 100000) (h0 : I 0 [] mu)
    (hs : ∀ i a, ds[i]? = some a → ∀ bs mu, I i bs mu → ∃ keep mu1, c ((wipeR rh [j]).set j (some (f a))) mu = some (.ok keep, mu1) ∧ (keep = true → ∃ b mu', m ((wipeR rh [j]).set j (some (f a))) mu1 = some (.ok (g b), mu') ∧ I (i + 1) (bs ++ [b]) mu') ∧ (keep = false → I (i + 1) bs mu1)) :
    ∃ cs mu', mLc [j] it (tNm j) c m rh mu0 = some (.ok (.lst (cs.map g)), mu') ∧ I ds.length cs mu' ∧ cs.length ≤ ds.length := by
  obtain ⟨cs, mu', h1, h2, h3⟩ := lc_loopI (j := j) (c := c) (m := m) (rh0 := wipeR rh [j]) (f := f) (g := g) I ds 0 [] mu (fun i a ha bs mu h => by
    rw [Nat.zero_add] at h ⊢
    exact hs i a ha bs mu h) h0
  rw [Nat.zero_add, List.nil_append] at h2
  refine ⟨cs, mu', ?_, h2, h3⟩
  unfold mLc
  rw [bindM_ok hi]
  simp only [h1]
  rw [few_ok (by rw [List.length_map]; omega)]
  rfl
theorem for_inv {α : Type} {ds : List α} {f : α → D} {j : Nat} {b : MS} {it : M (List D)} {rh : Rho} {mu mu1 : Mu} (I : Nat → Rho → Mu → Prop) (hi : it rh mu = some (.ok (ds.map f), mu1)) (h0 : I 0 rh mu1)
    (hs : ∀ i a, ds[i]? = some a → ∀ rh mu, I i rh mu → ∃ r' mu', b (rh.set j (some (f a))) mu = some (.nx r', mu') ∧ I (i + 1) r' mu') :
    ∃ r' mu', sFor it (tNm j) b rh mu = some (.nx r', mu') ∧ I ds.length r' mu' := by
  obtain ⟨r', mu', h1, h2⟩ := loop_inv (j := j) (b := b) (f := f) I ds 0 (fun i a ha rh mu h => by
    rw [Nat.zero_add] at h ⊢
    exact hs i a ha rh mu h) h0
  rw [Nat.zero_add] at h2
  refine ⟨r', mu', ?_, h2⟩
  show bindS it (fun ds => loopS (tNm j) b ds) rh mu = _
  rw [bindS_ok hi]
  exact h1
end
end Eb

namespace Eb
open PySem L2
structure Per where
  name : Str
  beg : Int
  goal : Int
  most : Int
  since : Int
  free : List Int
  led : List Int
structure Dor where
  one : Int
  oth : Int
  wide : Int
  ope : Int
  shu : Int
structure Hou where
  zones : Int
  hours : Int
  doors : List Dor
  people : List Per
def dPer (p : Per) : D := .tup [.str p.name, .int p.beg, .int p.goal, .int p.most, .int p.since, .tup (dI p.free), .tup (dI p.led)]
def dDor (d : Dor) : D := .tup [.int d.one, .int d.oth, .int d.wide, .int d.ope, .int d.shu]
def hF (h : Hou) : List D := [.int h.zones, .int h.hours, .lst (h.doors.map dDor), .lst (h.people.map dPer)]
def dH (h : Hou) : D := .tup (hF h)
def Per.isFree (p : Per) (z : Int) : Bool := decide (z = 0) || decide (z ∈ p.free)
def Per.may (p : Per) (z : Int) : Bool := p.isFree z || decide (z ∈ p.led)
theorem is_free_ev {o : D} {h : Hou} {mu : Mu} (ho : insOf mu o = some (0, hF h)) {n : Nat} {P : Per} (hp : h.people[n]? = some P) (z : Int) : m_is_free [o, .int n, .int z] mu = some (.ok (.bl (P.isFree z)), mu) := by
  simp [m_is_free, ho, hF, hp, dPer, Per.isFree]
theorem may_be_ev {o : D} {h : Hou} {mu : Mu} (ho : insOf mu o = some (0, hF h)) {n : Nat} {P : Per} (hp : h.people[n]? = some P) (z : Int) : m_may_be [o, .int n, .int z] mu = some (.ok (.bl (P.may z)), mu) := by
  simp [m_may_be, is_free_ev ho hp, ho, hF, hp, dPer, Per.may]

def Hou.P (h : Hou) (n : Nat) : Per := (h.people[n]?).getD ⟨"", 0, 0, 0, 0, [], []⟩
theorem Hou.P_of {h : Hou} {n : Nat} (l : n < h.people.length) : h.people[n]? = some (h.P n) := by
  unfold Hou.P
  rw [List.getElem?_eq_getElem l]
  rfl
/-- those of ps who aren't free in one of zs; what the others can lead -/
def Hou.bound (h : Hou) (ps : List Nat) (zs : List Int) : List Nat := ps.filter fun n => !(zs.filter fun z => !(h.P n).isFree z).isEmpty
def Hou.hands (h : Hou) (ps : List Nat) (zs : List Int) : Int := ((ps.filter fun n => !decide (n ∈ h.bound ps zs)).map fun n => (h.P n).most).sum
section
variable {o : D} {h : Hou} {mu : Mu} (ho : insOf mu o = some (0, hF h)) {ps : List Nat} {zs : List Int} (hp : ∀ n ∈ ps, n < h.people.length) (l1 : ps.length ≤ 100000) (l2 : zs.length ≤ 100000)
include ho hp l1 l2
theorem led_ones_ev : m_led_ones [o, .lst (dN ps), .lst (dI zs)] mu = some (.ok (.lst (dN (h.bound ps zs))), mu) := by
  simp [m_led_ones]
  rw [lc_ev (ds := ps) (f := fun n => .int (n : Int)) (fun n => !(zs.filter fun z => !(h.P n).isFree z).isEmpty) (fun n => .int (n : Int)) (by simp) l1 ?_ ?_]
  · rfl
  · intro n hn
    simp
    rw [lc_ev (ds := zs) (f := D.int) (fun z => !(h.P n).isFree z) D.int (by simp [wipeR]) l2 ?_ ?_]
    · simp
    · intro z hz
      simp [wipeR, is_free_ev ho (Hou.P_of (hp n hn))]
    · intro z hz _
      simp [wipeR]
  · intro n hn _
    simp [wipeR]
theorem can_lead_ev : m_can_lead_01 [o, .lst (dN ps), .lst (dI zs)] mu = some (.ok (.int (h.hands ps zs)), mu) := by
  simp [m_can_lead_01]
  rw [lc_ev (ds := ps) (f := fun n => .int (n : Int)) (fun n => !decide (n ∈ h.bound ps zs)) (fun n => .int (n : Int)) (by simp) l1 ?_ ?_]
  · simp
    rw [lc_ev (ds := ps.filter fun n => !decide (n ∈ h.bound ps zs)) (f := fun n => .int (n : Int)) (fun n => true) (fun n => .int (h.P n).most) (by simp) (Nat.le_trans (List.length_filter_le _ _) l1) ?_ ?_]
    · simp [Hou.hands]
    · intro n hn
      simp
    · intro n hn _
      simp [wipeR, ho, hF, Hou.P_of (hp n (List.mem_filter.mp hn).1), dPer]
  · intro n hn
    simp [wipeR, led_ones_ev ho hp l1 l2]
  · intro n hn _
    simp [wipeR]
end

abbrev S (st : List Int) (n : Nat) : Int := (st[n]?).getD 0
theorem S_of {st : List Int} {n : Nat} (l : n < st.length) : st[n]? = some (S st n) := by
  unfold S
  rw [List.getElem?_eq_getElem l]
  rfl
def dO : Option Nat → D
  | some n => .int (n : Int)
  | none => .non
def here (st : List Int) (z : Int) : List Nat := (List.range st.length).filter fun n => decide (S st n = z)
theorem here_lt {st : List Int} {z : Int} {n : Nat} (h : n ∈ here st z) : n < st.length := List.mem_range.mp (List.mem_filter.mp h).1
theorem here_len (st : List Int) (z : Int) : (here st z).length ≤ st.length := by
  have := List.length_filter_le (fun n => decide (S st n = z)) (List.range st.length)
  rw [List.length_range] at this
  exact this
def Hou.leftP (h : Hou) (st : List Int) (n : Nat) : Bool := !(h.P n).may (S st n) || (!(h.P n).isFree (S st n) && decide (h.hands (here st (S st n)) [S st n] < (h.bound (here st (S st n)) [S st n]).length))
def Hou.left (h : Hou) (st : List Int) : Option Nat := (List.range st.length).find? (h.leftP st)
theorem left_one_ev {o : D} {h : Hou} {mu : Mu} (ho : insOf mu o = some (0, hF h)) {st : List Int} (hs : st.length ≤ h.people.length) (hl : st.length ≤ 1000) : m_left_one_01 [o, .tup (dI st)] mu = some (.ok (dO (h.left st)), mu) := by
  have hlt : ∀ n ∈ List.range st.length, n < st.length := fun n hn => List.mem_range.mp hn
  simp [m_left_one_01, -v_for]
  rw [seq_find (ds := List.range st.length) (f := fun n => D.int (n : Int)) (fun rh => ∃ a b c, rh = [some o, some (.tup (dI st)), a, b, c, none]) (h.leftP st) (fun n => .int (n : Int)) (out := some (.rt .non, mu)) ?_ ⟨none, none, none, rfl⟩ ?_ ?_]
  · unfold Hou.left
    cases (List.range st.length).find? (h.leftP st) <;> rfl
  · have : st.length ≤ 1000000 := by omega
    simp [this]
  · rintro n hn _ ⟨a, b, c, rfl⟩
    have n1 := hlt n hn
    have n2 : n < h.people.length := by omega
    have hh : mLc [5] (mRng1 (mCons (mCB (pureF lenD) (mCons (mVar 1) (mNil))) (mNil))) (tNm 5) (mTest (mOp eqD (mOp ixD (mVar 1) (mVar 5)) (mVar 3))) (mVar 5) [some o, some (.tup (dI st)), some (.int n), some (.int (S st n)), c, none] mu = some (.ok (.lst (dN (here st (S st n)))), mu) := by
      rw [lc_ev (ds := List.range st.length) (f := fun n => D.int (n : Int)) (fun k => decide (S st k = S st n)) (fun n => .int (n : Int)) ?_ ?_ ?_ ?_]
      · rfl
      · have : st.length ≤ 1000000 := by omega
        simp [this]
      · simp; omega
      · intro k hk
        simp [wipeR, S_of (hlt k hk)]
      · intro k hk _
        simp [wipeR]
    have hp : ∀ k ∈ here st (S st n), k < h.people.length := fun k hk => Nat.lt_of_lt_of_le (here_lt hk) hs
    have hz : (here st (S st n)).length ≤ 100000 := Nat.le_trans (here_len _ _) (by omega)
    have e1 : m_led_ones [o, .lst (dN (here st (S st n))), .lst [.int (S st n)]] mu = _ := led_ones_ev ho hp hz (zs := [S st n]) (by simp)
    have e2 : m_can_lead_01 [o, .lst (dN (here st (S st n))), .lst [.int (S st n)]] mu = _ := can_lead_ev ho hp hz (zs := [S st n]) (by simp)
    simp [S_of n1, may_be_ev ho (Hou.P_of n2), is_free_ev ho (Hou.P_of n2), hh, e1, e2, Hou.leftP]
    by_cases b1 : (h.P n).may (S st n) = true <;> by_cases b2 : (h.P n).isFree (S st n) = true <;> by_cases b3 : h.hands (here st (S st n)) [S st n] < ((h.bound (here st (S st n)) [S st n]).length : Int) <;> simp [b1, b2, b3]
  · rintro _ _ ⟨a, b, c, rfl⟩
    simp
end Eb

/-! Eb: the bars. -/
namespace Eb
open PySem L2
/-! ### data without cells -/
theorem pure_of {f : Phi} {ds : List D} {mu mu' : Mu} {d : D} (hc : cfL ds = true) (h : f ds [] = some (.ok d, mu')) (hd : cf d = true) : mPure f ds mu = some (.ok d, mu) := by
  unfold mPure
  rw [if_pos hc, h]
  show (if cf d = true then _ else _) = _
  rw [if_pos hd]
theorem cfL_map {α : Type} {f : α → D} (h : ∀ a, cf (f a) = true) : ∀ l : List α, cfL (l.map f) = true
  | [] => rfl
  | a :: l => by
    show (cf (f a) && cfL (l.map f)) = true
    rw [h a, cfL_map h l]; rfl
@[simp] theorem cf_int {i : Int} : cf (.int i) = true := rfl
@[simp] theorem cf_str {i : Str} : cf (.str i) = true := rfl
@[simp] theorem cf_bl {i : Bool} : cf (.bl i) = true := rfl
@[simp] theorem cf_non : cf .non = true := rfl
@[simp] theorem cf_tup {ds : List D} : cf (.tup ds) = cfL ds := rfl
@[simp] theorem cf_lst {ds : List D} : cf (.lst ds) = cfL ds := rfl
@[simp] theorem cf_ins {c : Nat} {ds : List D} : cf (.ins c ds) = cfL ds := rfl
@[simp] theorem cf_scr {ns : List Int} : cf (.scr ns) = true := rfl
@[simp] theorem cfL_nil : cfL [] = true := rfl
@[simp] theorem cfL_cons {d : D} {ds : List D} : cfL (d :: ds) = (cf d && cfL ds) := rfl
@[simp] theorem cfL_I {l : List Int} : cfL (dI l) = true := cfL_map (fun _ => rfl) l
@[simp] theorem cfL_N {l : List Nat} : cfL (dN l) = true := cfL_map (fun _ => rfl) l
@[simp] theorem cf_P {p : Per} : cf (dPer p) = true := by simp [dPer]
@[simp] theorem cf_D {p : Dor} : cf (dDor p) = true := by simp [dDor]
@[simp] theorem cfL_hF {h : Hou} : cfL (hF h) = true := by
  simp [hF, cfL_map (f := dDor) (fun _ => cf_D), cfL_map (f := dPer) (fun _ => cf_P)]
@[simp] theorem cf_H {h : Hou} : cf (dH h) = true := cfL_hF
section
variable {mu : Mu} {h : Hou} {p : Per} {d : Dor}
@[simp] theorem H_0 : ixD mu (dH h) (.int 0) = some (.int h.zones) := by simp [dH, hF]
@[simp] theorem H_1 : ixD mu (dH h) (.int 1) = some (.int h.hours) := by simp [dH, hF]
@[simp] theorem H_2 : ixD mu (dH h) (.int 2) = some (.lst (h.doors.map dDor)) := by simp [dH, hF]
@[simp] theorem H_3 : ixD mu (dH h) (.int 3) = some (.lst (h.people.map dPer)) := by simp [dH, hF]
@[simp] theorem P_0 : ixD mu (dPer p) (.int 0) = some (.str p.name) := by simp [dPer]
@[simp] theorem P_1 : ixD mu (dPer p) (.int 1) = some (.int p.beg) := by simp [dPer]
@[simp] theorem P_2 : ixD mu (dPer p) (.int 2) = some (.int p.goal) := by simp [dPer]
@[simp] theorem P_3 : ixD mu (dPer p) (.int 3) = some (.int p.most) := by simp [dPer]
@[simp] theorem P_4 : ixD mu (dPer p) (.int 4) = some (.int p.since) := by simp [dPer]
@[simp] theorem P_5 : ixD mu (dPer p) (.int 5) = some (.tup (dI p.free)) := by simp [dPer]
@[simp] theorem P_6 : ixD mu (dPer p) (.int 6) = some (.tup (dI p.led)) := by simp [dPer]
end
/-! ### the law's own left -/
theorem lw_free_ev {h : Hou} {mu : Mu} {n : Nat} (hn : n < h.people.length) (z : Int) : m_lw_free [dH h, .int n, .int z] mu = some (.ok (.bl ((h.P n).isFree z)), mu) := by
  simp [m_lw_free, Hou.P_of hn, Per.isFree]
theorem lw_free_pv {h : Hou} {mu : Mu} {n : Nat} (hn : n < h.people.length) (z : Int) : mPure m_lw_free [dH h, .int n, .int z] mu = some (.ok (.bl ((h.P n).isFree z)), mu) :=
  pure_of (by simp) (lw_free_ev hn z) rfl
theorem bound1 {h : Hou} {ps : List Nat} {z : Int} : h.bound ps [z] = ps.filter fun n => !(h.P n).isFree z := by
  unfold Hou.bound
  apply List.filter_congr
  intro n _
  cases hf : (h.P n).isFree z <;> simp [hf]
theorem bound2 {h : Hou} {ps : List Nat} {z y : Int} : h.bound ps [z, y] = ps.filter fun n => !(h.P n).isFree z || !(h.P n).isFree y := by
  unfold Hou.bound
  apply List.filter_congr
  intro n _
  cases hf : (h.P n).isFree z <;> cases hg : (h.P n).isFree y <;> simp [hf, hg]
theorem may_eq {p : Per} {z : Int} : p.may z = (p.isFree z || decide (z ∈ p.led)) := rfl
theorem fil_len {α : Type} {l : List α} {p : α → Bool} {n : Nat} (h : l.length ≤ n) : (l.filter p).length ≤ n := Nat.le_trans (List.length_filter_le _ _) h
theorem lw_left_ev {h : Hou} {mu : Mu} {st : List Int} (hs : st.length ≤ h.people.length) (hl : st.length ≤ 1000) : m_lw_left [dH h, .tup (dI st)] mu = some (.ok (dO (h.left st)), mu) := by
  have hlt : ∀ n ∈ List.range st.length, n < st.length := fun n hn => List.mem_range.mp hn
  have hL : st.length ≤ 1000000 := by omega
  simp [m_lw_left, -v_for]
  rw [seq_find (ds := List.range st.length) (f := fun n => D.int (n : Int)) (fun rh => ∃ a b c e i, rh = [some (dH h), some (.tup (dI st)), a, b, c, e, i, none]) (h.leftP st) (fun n => .int (n : Int)) (out := some (.rt .non, mu)) ?_ ⟨none, none, none, none, none, rfl⟩ ?_ ?_]
  · unfold Hou.left
    cases (List.range st.length).find? (h.leftP st) <;> rfl
  · simp [hL]
  · rintro n hn _ ⟨a, b, c, e, i, rfl⟩
    have n1 := hlt n hn
    have n2 : n < h.people.length := by omega
    have hp : ∀ k ∈ here st (S st n), k < h.people.length := fun k hk => Nat.lt_of_lt_of_le (here_lt hk) hs
    have hz : (here st (S st n)).length ≤ 100000 := Nat.le_trans (here_len _ _) (by omega)
    have h1 : mLc [7] (mRng1 (mCons (mCB (pureF lenD) (mCons (mVar 1) (mNil))) (mNil))) (tNm 7) (mTest (mOp eqD (mOp ixD (mVar 1) (mVar 7)) (mVar 3))) (mVar 7) [some (dH h), some (.tup (dI st)), some (.int n), some (.int (S st n)), c, e, i, none] mu = some (.ok (.lst (dN (here st (S st n)))), mu) := by
      rw [lc_ev (ds := List.range st.length) (f := fun n => D.int (n : Int)) (fun k => decide (S st k = S st n)) (fun n => .int (n : Int)) ?_ ?_ ?_ ?_]
      · rfl
      · simp [hL]
      · simp; omega
      · intro k hk
        simp [wipeR, S_of (hlt k hk)]
      · intro k hk _
        simp [wipeR]
    have h2 : mLc [7] (mItems (mVar 4)) (tNm 7) (mNot (mTest (mCall (mPure m_lw_free) (mCons (mVar 0) (mCons (mVar 7) (mCons (mVar 3) (mNil))))))) (mVar 7) [some (dH h), some (.tup (dI st)), some (.int n), some (.int (S st n)), some (.lst (dN (here st (S st n)))), e, i, none] mu = some (.ok (.lst (dN (h.bound (here st (S st n)) [S st n]))), mu) := by
      rw [lc_ev (ds := here st (S st n)) (f := fun n => D.int (n : Int)) (fun k => !(h.P k).isFree (S st n)) (fun n => .int (n : Int)) ?_ hz ?_ ?_]
      · rw [bound1]
      · simp
      · intro k hk
        simp [wipeR, lw_free_pv (hp k hk)]
      · intro k hk _
        simp [wipeR]
    have h3 : mLc [7] (mItems (mVar 4)) (tNm 7) (mTest (mOp notinD (mVar 7) (mVar 5))) (mOp ixD (mOp ixD (mOp ixD (mVar 0) (mC (.int 3))) (mVar 7)) (mC (.int 3))) [some (dH h), some (.tup (dI st)), some (.int n), some (.int (S st n)), some (.lst (dN (here st (S st n)))), some (.lst (dN (h.bound (here st (S st n)) [S st n]))), i, none] mu = some (.ok (.lst ((((here st (S st n)).filter fun n_1 => !decide (n_1 ∈ h.bound (here st (S st n)) [S st n]))).map fun k => .int (h.P k).most)), mu) := by
      rw [lc_ev (ds := here st (S st n)) (f := fun n => D.int (n : Int)) (fun k => !decide (k ∈ h.bound (here st (S st n)) [S st n])) (fun k => .int (h.P k).most) ?_ hz ?_ ?_]
      · simp
      · intro k hk
        simp [wipeR]
      · intro k hk _
        simp [wipeR, Hou.P_of (hp k hk)]
    have hq : ((((here st (S st n)).filter fun n_1 => !decide (n_1 ∈ h.bound (here st (S st n)) [S st n]))).map fun k => (h.P k).most).sum = h.hands (here st (S st n)) [S st n] := rfl
    simp only [v_seq, v_asg, v_bindS, v_op, v_bindM, v_var, v_ifS, v_not, v_test, v_call]
    simp [S_of n1, lw_free_pv n2]
    by_cases b2 : (h.P n).isFree (S st n) = true
    · simp [b2, Hou.leftP, Per.may]
    · have b2' : (h.P n).isFree (S st n) = false := by simpa using b2
      simp [b2', h1, h2, h3, hq, Hou.P_of n2, Hou.leftP, Per.may]
      by_cases b1 : S st n ∈ (h.P n).led <;> by_cases b3 : h.hands (here st (S st n)) [S st n] < ((h.bound (here st (S st n)) [S st n]).length : Int) <;> simp [b1, b3]
  · rintro _ _ ⟨a, b, c, e, i, rfl⟩
    simp

/-! ### the bars -/
def mv (st : List Int) (g : List Nat) (z : Int) : List Int := (List.range st.length).map fun n => if n ∈ g then z else S st n
theorem mv_len {st : List Int} {g : List Nat} {z : Int} : (mv st g z).length = st.length := by simp [mv]
def dB : Option (Str × Nat) → D
  | some (w, n) => .tup [.str w, .int n]
  | none => .non
inductive Stp where
  | wait
  | go (num : Nat) (g : List Nat)
def dS : Stp → D
  | .wait => .tup [.str "wait"]
  | .go num g => .tup [.str "go", .int num, .tup (dN g)]
def Hou.Dr (h : Hou) (n : Nat) : Dor := (h.doors[n]?).getD ⟨0, 0, 0, 0, 0⟩
theorem Hou.Dr_of {h : Hou} {n : Nat} (l : n < h.doors.length) : h.doors[n]? = some (h.Dr n) := by
  unfold Hou.Dr
  rw [List.getElem?_eq_getElem l]
  rfl
def Hou.strange (h : Hou) (th : Int) (n : Nat) : Bool := !(h.P n).may th
def Hou.late (h : Hou) (hour : Int) (n : Nat) : Bool := decide (hour < (h.P n).since)
def Hou.away (h : Hou) (st : List Int) (num : Nat) (z : Int) (n : Nat) : Bool := !decide (S st n = z) || !(decide (z = (h.Dr num).one) || decide (z = (h.Dr num).oth))
def Hou.barG (h : Hou) (st : List Int) (g : List Nat) (he th : Int) : Option (Str × Nat) := match g.find? (h.strange th) with
  | some n => some ("may", n)
  | none => if h.hands g [he, th] < (h.bound g [he, th]).length then some ("led", (h.bound g [he, th]).headD 0) else match h.left (mv st g th) with
    | some n => some ("left", n)
    | none => none
def Hou.barH (h : Hou) (st : List Int) (g : List Nat) (he th : Int) : Option (Str × Nat) := if h.hands g [he, th] < (h.bound g [he, th]).length then some ("led", (h.bound g [he, th]).headD 0) else match h.left (mv st g th) with
    | some n => some ("left", n)
    | none => none
theorem Hou.barG_eq {h : Hou} {st : List Int} {g : List Nat} {he th : Int} : h.barG st g he th = match g.find? (h.strange th) with
  | some n => some ("may", n)
  | none => h.barH st g he th := rfl
def Hou.barW (h : Hou) (st : List Int) (num : Nat) (g : List Nat) (z : Int) : Option (Str × Nat) := if (h.Dr num).wide < g.length then some ("wide", num) else h.barG st g z ((h.Dr num).one + (h.Dr num).oth - z)
def Hou.barA (h : Hou) (st : List Int) (num : Nat) (g : List Nat) (z : Int) : Option (Str × Nat) := match g.find? (h.away st num z) with
  | some n => some ("place", n)
  | none => h.barW st num g z
def Hou.barGo (h : Hou) (hour : Int) (st : List Int) (num : Nat) (g : List Nat) (z : Int) : Option (Str × Nat) :=
  if (h.Dr num).ope ≤ hour ∧ hour < (h.Dr num).shu then match g.find? (h.late hour) with
    | some n => some ("late", n)
    | none => h.barA st num g z
  else some ("hour", num)
def Hou.bar (h : Hou) (hour : Int) (st : List Int) : Stp → Option (Str × Nat)
  | .wait => none
  | .go num g => h.barGo hour st num g (S st (g.headD 0))
/-- a group of the house's people -/
structure GrpOk (h : Hou) (g : List Nat) : Prop where
  lt : ∀ n ∈ g, n < h.people.length
  ne : g ≠ []
  up : g.Pairwise (· < ·)
def StpOk (h : Hou) : Stp → Prop
  | .wait => True
  | .go num g => num < h.doors.length ∧ GrpOk h g
/-- what is needed of a house for these to be reckoned -/
structure HouN (h : Hou) : Prop where
  most : ∀ n, 0 ≤ (h.P n).most
  few : h.people.length ≤ 4
theorem up_lo : ∀ (g : List Nat) (lo m : Nat), g.Pairwise (· < ·) → (∀ n ∈ g, lo ≤ n ∧ n < m) → g.length ≤ m - lo
  | [], _, _, _, _ => Nat.zero_le _
  | a :: g, lo, m, h1, h2 => by
    rw [List.pairwise_cons] at h1
    have h3 := h2 a List.mem_cons_self
    have := up_lo g (a + 1) m h1.2 fun n hn => ⟨h1.1 n hn, (h2 n (List.mem_cons_of_mem _ hn)).2⟩
    simp
    omega
theorem up_len {g : List Nat} {m : Nat} (h1 : g.Pairwise (· < ·)) (h2 : ∀ n ∈ g, n < m) : g.length ≤ m := by
  have := up_lo g 0 m h1 fun n hn => ⟨Nat.zero_le _, h2 n hn⟩
  omega
theorem first_ev {mu : Mu} {l : List Nat} : m_first_of [.lst (dN l)] mu = some (.ok (dO l.head?), mu) := by
  simp [m_first_of]
  cases l with
  | nil => simp [dO]
  | cons a l => simp [dO]
theorem moved_ev {mu : Mu} {st : List Int} {g : List Nat} {z : Int} (hl : st.length ≤ 1000) : m_moved [.tup (dI st), .lst (dN g), .int z] mu = some (.ok (.tup (dI (mv st g z))), mu) := by
  have hL : st.length ≤ 1000000 := by omega
  simp [m_moved]
  rw [lc_ev (ds := List.range st.length) (f := fun n => D.int (n : Int)) (fun k => true) (fun n => .int (if n ∈ g then z else S st n)) ?_ ?_ ?_ ?_]
  · simp [mv, Function.comp_def]
  · simp [hL]
  · simp; omega
  · intro k hk
    simp
  · intro k hk _
    simp [wipeR, S_of (List.mem_range.mp hk)]
    by_cases hg : k ∈ g <;> simp [hg]
theorem hands_nn {h : Hou} (N : HouN h) (g : List Nat) (zs : List Int) : 0 ≤ h.hands g zs := by
  unfold Hou.hands
  generalize List.filter _ g = l
  induction l with
  | nil => simp
  | cons a l ih =>
    have := N.most a
    simp
    omega
section
variable {o : D} {h : Hou} {mu : Mu} {st : List Int} {g : List Nat} (N : HouN h) (hs : st.length = h.people.length)
include N hs
theorem going_ev (ho : insOf mu o = some (0, hF h)) (G : GrpOk h g) (he th : Int) : m_bar_of_going_01 [o, .tup (dI st), .lst (dN g), .int he, .int th] mu = some (.ok (dB (h.barG st g he th)), mu) := by
  have f4 := N.few
  have gl : g.length ≤ 100000 := by have := up_len G.up G.lt; omega
  have e1 : m_led_ones [o, .lst (dN g), .lst [.int he, .int th]] mu = _ := led_ones_ev ho G.lt gl (zs := [he, th]) (by simp)
  have e2 : m_can_lead_01 [o, .lst (dN g), .lst [.int he, .int th]] mu = _ := can_lead_ev ho G.lt gl (zs := [he, th]) (by simp)
  have e3 : m_moved [.tup (dI st), .lst (dN g), .int th] mu = _ := moved_ev (by omega)
  have e4 := left_one_ev ho (st := mv st g th) (by rw [mv_len]; omega) (by rw [mv_len]; omega)
  have h1 : ∀ a b c d, mLc [8] (mItems (mVar 2)) (tNm 8) (mNot (mTest (mCall m_may_be (mCons (mVar 0) (mCons (mVar 8) (mCons (mVar 4) (mNil))))))) (mVar 8) [some o, some (.tup (dI st)), some (.lst (dN g)), some (.int he), some (.int th), a, b, c, d] mu = some (.ok (.lst (dN (g.filter (h.strange th)))), mu) := by
    intro a b c d
    rw [lc_ev (ds := g) (f := fun n => D.int (n : Int)) (h.strange th) (fun n => .int (n : Int)) ?_ gl ?_ ?_]
    · simp
    · intro k hk
      simp [wipeR, may_be_ev ho (Hou.P_of (G.lt k hk)), Hou.strange]
    · intro k hk _
      simp [wipeR]
  simp [m_bar_of_going_01, h1, first_ev, e1, e2, e3, e4, Hou.barG, List.head?_filter]
  cases hf : g.find? (h.strange th) with
  | some n => simp [dO, dB]
  | none =>
    simp [dO]
    by_cases b1 : h.hands g [he, th] < ((h.bound g [he, th]).length : Int)
    · have := hands_nn N g [he, th]
      cases hb : h.bound g [he, th] with
      | nil => rw [hb] at b1; simp at b1; omega
      | cons a l =>
        rw [hb] at b1
        simp at b1
        simp [b1, dB]
    · simp [b1]
      cases hl : h.left (mv st g th) <;> simp [dB]
end
end Eb

/-! Eb: what bars a step. -/
namespace Eb
open PySem L2
theorem same_len {ds es : List D} (h : ds.length ≠ es.length) : same (.tup ds) (.tup es) = false := by
  unfold same
  simp
  rintro rfl
  exact h rfl
theorem same_refl (d : D) : same d d = true := by simp [same]
theorem all_N (n : Nat) (l : List Nat) : (dN l).all (pl (n + 1)) = true := by rw [dN_I]; exact pl_I n _
theorem pl_step {num : Nat} {g : List Nat} : pl 12 (dS (.go num g)) = true := by
  show ([D.str "go", .int num, .tup (dN g)].all (pl 11)) = true
  simp only [List.all_cons, List.all_nil, Bool.and_true]
  have h1 : pl 11 (.str "go") = true := by decide +kernel
  have h3 : pl 11 (.tup (dN g)) = true := all_N 9 g
  rw [h1, h3]
  rfl
theorem pl_wait : pl 12 (.tup [.str "wait"]) = true := by decide +kernel
@[simp] theorem eq_wait {mu : Mu} : eqD mu (dS .wait) (.tup [.str "wait"]) = some (.bl true) := by
  show eqD mu (.tup [.str "wait"]) (.tup [.str "wait"]) = _
  rw [o_eqP pl_wait pl_wait, same_refl]
@[simp] theorem eq_go {mu : Mu} {num : Nat} {g : List Nat} : eqD mu (dS (.go num g)) (.tup [.str "wait"]) = some (.bl false) := by
  rw [o_eqP pl_step pl_wait, dS, same_len (by simp)]
section
variable {mu : Mu} {num : Nat} {g : List Nat}
@[simp] theorem S_0 : ixD mu (dS (.go num g)) (.int 0) = some (.str "go") := by simp [dS]
@[simp] theorem S_1 : ixD mu (dS (.go num g)) (.int 1) = some (.int num) := by simp [dS]
@[simp] theorem S_2 : ixD mu (dS (.go num g)) (.int 2) = some (.tup (dN g)) := by simp [dS]
@[simp] theorem S_len : lenD mu [dS (.go num g)] = some (.int 3) := rfl
@[simp] theorem W_len : lenD mu [dS .wait] = some (.int 1) := rfl
end
@[simp] theorem atI_m1 {α : Type} {l : List α} : atI l (-1) = l.getLast? := by
  unfold atI ixN
  rw [if_neg (by omega)]
  cases l with
  | nil => rfl
  | cons a l =>
    rw [if_pos (by simp; omega)]
    show (a :: l)[(-1 + ((a :: l).length : Int)).toNat]? = _
    rw [List.getLast?_eq_getElem?]
    congr 1
    simp
    omega
theorem sdd_up : ∀ {l : List Int}, l.Pairwise (· < ·) → sdd l = l := fun h => (sdd_unique h fun _ => Iff.rfl).symm
theorem up_cast {g : List Nat} (h : g.Pairwise (· < ·)) : (g.map fun (n : Nat) => (n : Int)).Pairwise (· < ·) := by
  rw [List.pairwise_map]
  exact h.imp fun h => by omega
@[simp] theorem o_setN {mu : Mu} {g : List Nat} (h : g.Pairwise (· < ·)) (hl : g.length ≤ 60) : setD mu [.tup (dN g)] = some (.set (g.map fun (n : Nat) => (n : Int))) := by
  show (match intsOf (dN g) with | some ns => if ns.length ≤ 1000 then some (D.set (sdd ns)) else none | none => none) = _
  rw [dN_I, intsOf_I]
  simp only [List.length_map]
  rw [if_pos (by omega), sdd_up (up_cast h)]
@[simp] theorem o_sortN {mu : Mu} {g : List Nat} (hl : g.length ≤ 60) : sortSetD mu [.set (g.map fun (n : Nat) => (n : Int))] = some (.lst (dN g)) := by
  show (if (g.map fun (n : Nat) => (n : Int)).length < 64 then some (D.lst ((g.map fun (n : Nat) => (n : Int)).map .int)) else none) = _
  rw [if_pos (by simp; omega), dN_I]
theorem pl_tN (g : List Nat) : pl 12 (.tup (dN g)) = true := all_N 10 g
section
variable {o : D} {h : Hou} {mu : Mu} {st : List Int} (N : HouN h) (hs : st.length = h.people.length)
include N
theorem need_ev (ho : insOf mu o = some (0, hF h)) {s : Stp} (ok : StpOk h s) : m_need_step [o, dS s] mu = some (.ok .non, mu) := by
  cases s with
  | wait => simp [m_need_step]
  | go num g =>
    obtain ⟨hn, G⟩ := ok
    have f4 := N.few
    have gl : g.length ≤ 60 := by have := up_len G.up G.lt; omega
    have e1 : eqD mu (.tup (dN g)) (.tup []) = some (.bl false) := by
      rw [o_eqP (pl_tN g) rfl, same_nilT]
      have := G.ne
      cases g <;> simp_all
    have e2 : neD mu (.tup (dN g)) (.tup (dN g)) = some (.bl false) := by
      rw [o_neP (pl_tN g) (pl_tN g), same_refl]; rfl
    have e3 : neD mu (.str "go") (.str "go") = some (.bl false) := by
      rw [o_neP (by decide +kernel) (by decide +kernel), same_refl]; rfl
    have e4 : g.getLast?.map (fun (n : Nat) => D.int (n : Int)) = some (.int ((g.getLast G.ne : Nat) : Int)) := by rw [List.getLast?_eq_some_getLast G.ne]; rfl
    have e5 := G.lt _ (List.getLast_mem G.ne)
    have e6 : (g[0]?).map (fun (n : Nat) => D.int (n : Int)) = some (.int ((g.head G.ne : Nat) : Int)) := by
      cases g with
      | nil => exact absurd rfl G.ne
      | cons a l => rfl
    have e7 : g.head G.ne ≤ g.getLast G.ne := by
      have hu := G.up
      cases g with
      | nil => exact absurd rfl G.ne
      | cons a l =>
        cases l with
        | nil => simp
        | cons b l =>
          rw [List.pairwise_cons] at hu
          have := hu.1 ((b :: l).getLast (by simp)) (List.getLast_mem _)
          simp only [List.head_cons, List.getLast_cons_cons]
          omega
    simp [m_need_step, ho, hF, hn, e3, e1, e2, G.up, gl, List.head?_eq_some_head G.ne, List.getLast?_eq_some_getLast G.ne, ← List.head?_eq_getElem?, e5, e7]
include hs
theorem bar_ev (ho : insOf mu o = some (0, hF h)) (hour : Int) {s : Stp} (ok : StpOk h s) : m_bar_of_01 [o, .int hour, .tup (dI st), dS s] mu = some (.ok (dB (h.bar hour st s)), mu) := by
  cases s with
  | wait => simp [m_bar_of_01, Hou.bar, dB]
  | go num g =>
    obtain ⟨hn, G⟩ := ok
    have f4 := N.few
    have gl : g.length ≤ 60 := by have := up_len G.up G.lt; omega
    have gs : ∀ n ∈ g, n < st.length := fun n hk => by rw [hs]; exact G.lt n hk
    have e0 : g[0]? = some (g.headD 0) := by
      cases g with
      | nil => exact absurd rfl G.ne
      | cons a l => rfl
    have e1 : st[g.headD 0]? = some (S st (g.headD 0)) := by
      cases g with
      | nil => exact absurd rfl G.ne
      | cons a l => exact S_of (gs a List.mem_cons_self)
    have nI : ∀ z : Int, notinD mu (.int z) (.tup [.int (h.Dr num).one, .int (h.Dr num).oth]) = some (.bl (!(decide (z = (h.Dr num).one) || decide (z = (h.Dr num).oth)))) := by
      intro z
      have := o_ninT (mu := mu) (a := z) (l := [(h.Dr num).one, (h.Dr num).oth])
      simpa using this
    have h1 : ∀ a b c d e i j k l m, mLc [14] (mItems (mVar 5)) (tNm 14) (mTest (mOp gtD (mOp ixD (mOp ixD (mFld 0 3 (mVar 0)) (mVar 14)) (mC (.int 4))) (mVar 1))) (mVar 14) [some o, some (.int hour), a, b, c, some (.lst (dN g)), d, e, i, j, k, l, m, none, none] mu = some (.ok (.lst (dN (g.filter (h.late hour)))), mu) := by
      intros
      rw [lc_ev (ds := g) (f := fun n => D.int (n : Int)) (h.late hour) (fun n => .int (n : Int)) ?_ (by omega) ?_ ?_]
      · simp
      · intro k hk
        simp [wipeR, ho, hF, Hou.P_of (G.lt k hk), Hou.late]
      · intro k hk _
        simp [wipeR]
    have h2 : ∀ a b c d e i j, mLc [14] (mItems (mVar 5)) (tNm 14) (mOr (mTest (mOp neD (mOp ixD (mVar 2) (mVar 14)) (mVar 12))) (mTest (mOp notinD (mVar 12) (mTup (mCons (mVar 6) (mCons (mVar 7) (mNil))))))) (mVar 14) [a, b, some (.tup (dI st)), c, d, some (.lst (dN g)), some (.int (h.Dr num).one), some (.int (h.Dr num).oth), e, i, j, some .non, some (.int (S st (g.headD 0))), none, none] mu = some (.ok (.lst (dN (g.filter (h.away st num (S st (g.headD 0)))))), mu) := by
      intros
      rw [lc_ev (ds := g) (f := fun n => D.int (n : Int)) (h.away st num (S st (g.headD 0))) (fun n => .int (n : Int)) ?_ (by omega) ?_ ?_]
      · simp
      · intro k hk
        simp [wipeR, S_of (gs k hk), nI, Hou.away, -List.headD_eq_head?_getD]
      · intro k hk _
        simp [wipeR]
    have e2 := going_ev N hs ho G (S st (g.headD 0)) ((h.Dr num).one + (h.Dr num).oth - S st (g.headD 0))
    show _ = some (Rs.ok (dB (h.barGo hour st num g (S st (g.headD 0)))), mu)
    generalize S st (g.headD 0) = z at *
    unfold Hou.barGo
    by_cases b1 : (h.Dr num).ope ≤ hour ∧ hour < (h.Dr num).shu
    · rw [if_pos b1]
      have b1' : ¬ (hour < (h.Dr num).ope ∨ (h.Dr num).shu ≤ hour) := by omega
      cases hf : g.find? (h.late hour) with
      | some n => simp [m_bar_of_01, ho, hF, Hou.Dr_of hn, dDor, h1, first_ev, List.head?_filter, b1', e0, e1, hf, dO, dB, -List.headD_eq_head?_getD]
      | none => 
        cases hg : g.find? (h.away st num z) with
        | some n => simp [m_bar_of_01, ho, hF, Hou.Dr_of hn, dDor, h1, h2, first_ev, List.head?_filter, b1', e0, e1, hf, hg, dO, dB, Hou.barA, -List.headD_eq_head?_getD]
        | none => 
          by_cases b3 : (h.Dr num).wide < g.length
          · simp [m_bar_of_01, ho, hF, Hou.Dr_of hn, dDor, h1, h2, first_ev, List.head?_filter, b1', b3, e0, e1, hf, hg, dO, dB, Hou.barA, Hou.barW, -List.headD_eq_head?_getD]
          · simp [m_bar_of_01, ho, hF, Hou.Dr_of hn, dDor, h1, h2, first_ev, List.head?_filter, b1', b3, e0, e1, e2, hf, hg, dO, Hou.barA, Hou.barW, -List.headD_eq_head?_getD]
    · rw [if_neg b1]
      have b2 : hour < (h.Dr num).ope ∨ (h.Dr num).shu ≤ hour := by omega
      simp [m_bar_of_01, ho, hF, Hou.Dr_of hn, dDor, b2, dB]
theorem barred_ev (ho : insOf mu o = some (0, hF h)) (hour : Int) {s : Stp} (ok : StpOk h s) : m_barred_01 [o, .int hour, .tup (dI st), dS s] mu = some (.ok (dB (h.bar hour st s)), mu) := by
  simp [m_barred_01, need_ev N ho ok, bar_ev N hs ho hour ok]
end
end Eb

/-! Eb: the law's own bars. -/
namespace Eb
open PySem L2
theorem fold_set {v : Int} : ∀ (g : List Nat) (st : List Int) (i : Nat), (∀ n ∈ g, n < st.length) → (g.foldl (fun c p => c.set p v) st)[i]? = if i ∈ g then some v else st[i]?
  | [], st, i, _ => by simp
  | a :: g, st, i, h => by
    rw [List.foldl_cons, fold_set g (st.set a v) i (fun n hn => by rw [List.length_set]; exact h n (List.mem_cons_of_mem _ hn))]
    by_cases h1 : i ∈ g
    · simp [h1]
    · rw [if_neg h1]
      by_cases h2 : i = a
      · subst h2
        rw [List.getElem?_set_self (h i List.mem_cons_self)]
        simp
      · rw [List.getElem?_set_ne (Ne.symm h2)]
        simp [h1, h2]
theorem fold_mv {v : Int} {g : List Nat} {st : List Int} (h : ∀ n ∈ g, n < st.length) : g.foldl (fun c p => c.set p v) st = mv st g v := by
  apply List.ext_getElem?
  intro i
  rw [fold_set g st i h]
  unfold mv
  rw [List.getElem?_map]
  by_cases hi : i < st.length
  · rw [List.getElem?_range hi]
    by_cases h1 : i ∈ g
    · simp [h1]
    · simp [h1, S, hi]
  · have : ¬ i ∈ g := fun z => hi (h i z)
    rw [if_neg this, List.getElem?_eq_none (by omega), List.getElem?_eq_none (by simp; omega)]
    rfl
section
variable {o : D} {h : Hou} {mu : Mu} {st : List Int} {num : Nat} {g : List Nat}
theorem behind_ev (hn : num < h.doors.length) (hg : ∀ n ∈ g, n < st.length) {z : Int} (hz : ∀ n ∈ g, S st n = z) : ∃ mu', m_lw_behind [dH h, .tup (dI st), dS (.go num g)] [] = some (.ok (.tup (dI (mv st g (if z = (h.Dr num).one then (h.Dr num).oth else (h.Dr num).one)))), mu') := by
  have ec : cutL [D.int (h.Dr num).one, .int (h.Dr num).oth, .int (h.Dr num).wide, .int (h.Dr num).ope, .int (h.Dr num).shu] none (some 2) = [D.int (h.Dr num).one, .int (h.Dr num).oth] := rfl
  simp [m_lw_behind, -v_for, Hou.Dr_of hn, dDor, ec]
  refine seq_fold (ds := g) (f := fun n => D.int (n : Int)) (fun (c : List Int) p => c.set p (if z = (h.Dr num).one then (h.Dr num).oth else (h.Dr num).one)) (fun c rh mu => c.length = st.length ∧ mu = [.lst (dI c)] ∧ ∃ i, rh = [some (dH h), some (.tup (dI st)), some (dS (.go num g)), some (.int (h.Dr num).one), some (.int (h.Dr num).oth), some (.cel 0), i]) st ?_ ⟨rfl, rfl, none, rfl⟩ ?_ (fun o => ∃ mu', fin o = some (.ok (.tup (dI (mv st g (if z = (h.Dr num).one then (h.Dr num).oth else (h.Dr num).one)))), mu')) ?_
  · simp
  · rintro n hn' c _ _ ⟨hc, rfl, i, rfl⟩
    have h1 := hg n hn'
    have h2 := hz n hn'
    have h3 : ixN c.length n = some n := by
      unfold ixN
      rw [if_pos (by omega), if_pos (by omega)]
      simp
    rw [hc] at h3
    by_cases hz0 : z = (h.Dr num).one
    · simp [S_of h1, h2, hz0, h3, hc]
      exact ⟨_, _, ⟨rfl, rfl⟩, rfl, _, rfl⟩
    · simp [S_of h1, h2, hz0, h3, hc]
      exact ⟨_, _, ⟨rfl, rfl⟩, rfl, _, rfl⟩
  · rintro r' mu' ⟨hc, rfl, i, rfl⟩
    rw [fold_mv hg] at *
    simp [frzD]
theorem behind_wait {mu : Mu} : m_lw_behind [dH h, .tup (dI st), dS .wait] mu = some (.ok (.tup (dI st)), mu) := by
  simp [m_lw_behind]
theorem behind_pv (hn : num < h.doors.length) (hg : ∀ n ∈ g, n < st.length) {z : Int} (hz : ∀ n ∈ g, S st n = z) : mPure m_lw_behind [dH h, .tup (dI st), dS (.go num g)] mu = some (.ok (.tup (dI (mv st g (if z = (h.Dr num).one then (h.Dr num).oth else (h.Dr num).one)))), mu) := by
  obtain ⟨mu', e⟩ := behind_ev hn hg hz
  exact pure_of (by simp [dS]) e (by simp)
@[simp] theorem cf_dS {s : Stp} : cf (dS s) = true := by cases s <;> simp [dS]
@[simp] theorem cf_dB {s : Option (Str × Nat)} : cf (dB s) = true := by rcases s with _ | ⟨w, n⟩ <;> simp [dB]
@[simp] theorem cf_dO {s : Option Nat} : cf (dO s) = true := by cases s <;> simp [dO]
theorem lw_left_pv (hs : st.length ≤ h.people.length) (hl : st.length ≤ 1000) : mPure m_lw_left [dH h, .tup (dI st)] mu = some (.ok (dO (h.left st)), mu) :=
  pure_of (by simp) (lw_left_ev hs hl) (by simp)
variable (N : HouN h) (hs : st.length = h.people.length)
include N hs
theorem lw_bar_ev (hour : Int) {s : Stp} (ok : StpOk h s) : m_lw_bar_01 [dH h, .int hour, .tup (dI st), dS s] mu = some (.ok (dB (h.bar hour st s)), mu) := by
  cases s with
  | wait => simp [m_lw_bar_01, Hou.bar, dB]
  | go num g =>
    obtain ⟨hn, G⟩ := ok
    have f4 := N.few
    have gl : g.length ≤ 60 := by have := up_len G.up G.lt; omega
    have gs : ∀ n ∈ g, n < st.length := fun n hk => by rw [hs]; exact G.lt n hk
    have e0 : g[0]? = some (g.headD 0) := by
      cases g with
      | nil => exact absurd rfl G.ne
      | cons a l => rfl
    have e1 : st[g.headD 0]? = some (S st (g.headD 0)) := by
      cases g with
      | nil => exact absurd rfl G.ne
      | cons a l => exact S_of (gs a List.mem_cons_self)
    have e2 : g.headD 0 ∈ g := by
      cases g with
      | nil => exact absurd rfl G.ne
      | cons a l => exact List.mem_cons_self
    have eS : ∀ u rh, tTp 3 u (dS (.go num g)) rh = u [.str "go", .int num, .tup (dN g)] rh := fun _ _ => rfl
    have eD : ∀ u rh, tTp 5 u (dDor (h.Dr num)) rh = u [.int (h.Dr num).one, .int (h.Dr num).oth, .int (h.Dr num).wide, .int (h.Dr num).ope, .int (h.Dr num).shu] rh := fun _ _ => rfl
    show _ = some (Rs.ok (dB (h.barGo hour st num g (S st (g.headD 0)))), mu)
    have e3 : (∀ n ∈ g, S st n = S st (g.headD 0)) → mPure m_lw_behind [dH h, .tup (dI st), dS (.go num g)] mu = _ := behind_pv (mu := mu) hn gs
    generalize S st (g.headD 0) = z at *
    unfold Hou.barGo
    by_cases b1 : (h.Dr num).ope ≤ hour ∧ hour < (h.Dr num).shu
    · rw [if_pos b1]
      have b1' : ¬ (hour < (h.Dr num).ope ∨ (h.Dr num).shu ≤ hour) := by omega
      let pre : Rho := [some (dH h), some (.int hour), some (.tup (dI st)), some (dS (.go num g)), some (.str "go"), some (.int num), some (.tup (dN g)), some (.int (h.Dr num).one), some (.int (h.Dr num).oth), some (.int (h.Dr num).wide), some (.int (h.Dr num).ope), some (.int (h.Dr num).shu)]
      simp [m_lw_bar_01, Hou.Dr_of hn, eS, eD, b1', -v_for]
      rw [seq_find (ds := g) (f := fun n => D.int (n : Int)) (fun rh => ∃ a, rh = pre ++ [a, none, none, none, none, none]) (h.late hour) (fun n => .tup [.str "late", .int n]) (out := some (.rt (dB (h.barA st num g z)), mu)) ?_ ⟨none, rfl⟩ ?_ ?_]
      · cases g.find? (h.late hour) <;> simp [dB]
      · simp
      · rintro n hn' _ ⟨a, rfl⟩
        simp [pre, Hou.P_of (G.lt n hn')]
        by_cases bb : hour < (h.P n).since <;> simp [bb, Hou.late]
      · rintro _ _ ⟨a, rfl⟩
        by_cases c1 : z = (h.Dr num).one ∨ z = (h.Dr num).oth
        · have c2 : ¬ (¬ z = (h.Dr num).one ∧ ¬ z = (h.Dr num).oth) := by omega
          simp [pre, e0, e1, c2, -v_for, -List.headD_eq_head?_getD, -not_and, -Decidable.not_not]
          rw [seq_find (ds := g) (f := fun n => D.int (n : Int)) (fun rh => ∃ a, rh = pre ++ [a, some (.int z), none, none, none, none]) (fun n => !decide (S st n = z)) (fun n => .tup [.str "place", .int n]) (out := some (.rt (dB (h.barW st num g z)), mu)) ?_ ?_ ?_ ?_]
          · have : h.away st num z = fun n => !decide (S st n = z) := by
              funext n
              unfold Hou.away
              rcases c1 with c1 | c1 <;> simp [c1]
            unfold Hou.barA
            rw [this]
            cases g.find? (fun n => !decide (S st n = z)) <;> simp [dB]
          · simp
          · exact ⟨a, rfl⟩
          · rintro n hn' _ ⟨a, rfl⟩
            simp [pre, S_of (gs n hn')]
            by_cases bb : S st n = z <;> simp [bb]
          · rintro fn _ ⟨a, rfl⟩
            have fn' : ∀ n ∈ g, S st n = z := fun n hn' => by simpa using List.find?_eq_none.mp fn n hn'
            by_cases c3 : (h.Dr num).wide < g.length
            · simp [pre, c3, Hou.barW, dB, -v_for]
            · have et : (if z = (h.Dr num).one then (h.Dr num).oth else (h.Dr num).one) = (h.Dr num).one + (h.Dr num).oth - z := by
                rcases c1 with c1 | c1
                · rw [if_pos c1]; omega
                · by_cases c4 : z = (h.Dr num).one
                  · rw [if_pos c4]; omega
                  · rw [if_neg c4]; omega
              have e4 := e3 fn'
              rw [et] at e4
              have ei : ∀ a b : Int, atI [D.int a, .int b] (if z = a then 1 else 0) = some (.int (if z = a then b else a)) := by
                intro a b
                by_cases c4 : z = a <;> simp [c4]
              unfold Hou.barW
              rw [if_neg c3]
              generalize (h.Dr num).one + (h.Dr num).oth - z = th at *
              simp [pre, c3, -v_for, ei, et]
              rw [seq_find (ds := g) (f := fun n => D.int (n : Int)) (fun rh => ∃ a, rh = pre ++ [a, some (.int z), some (.int th), none, none, none]) (h.strange th) (fun n => .tup [.str "may", .int n]) (out := some (.rt (dB (h.barH st g z th)), mu)) ?_ ?_ ?_ ?_]
              · rw [Hou.barG_eq]
                cases g.find? (h.strange th) <;> simp [dB]
              · simp
              · exact ⟨a, rfl⟩
              · rintro n hn' _ ⟨a, rfl⟩
                simp [pre, Hou.P_of (G.lt n hn'), lw_free_pv (G.lt n hn')]
                cases b4 : (h.P n).isFree th <;> by_cases b5 : th ∈ (h.P n).led <;> simp [b4, b5, Hou.strange, Per.may]
              · rintro _ _ ⟨a, rfl⟩
                have h1 : mLc [17] (mItems (mVar 6)) (tNm 17) (mOr (mNot (mTest (mCall (mPure m_lw_free) (mCons (mVar 0) (mCons (mVar 17) (mCons (mVar 13) (mNil))))))) (mNot (mTest (mCall (mPure m_lw_free) (mCons (mVar 0) (mCons (mVar 17) (mCons (mVar 14) (mNil)))))))) (mVar 17) (pre ++ [a, some (.int z), some (.int th), none, none, none]) mu = some (.ok (.lst (dN (h.bound g [z, th]))), mu) := by
                  rw [lc_ev (ds := g) (f := fun n => D.int (n : Int)) (fun n => !(h.P n).isFree z || !(h.P n).isFree th) (fun n => .int (n : Int)) ?_ (by omega) ?_ ?_]
                  · rw [bound2]
                  · simp [pre]
                  · intro k hk
                    simp [pre, wipeR, lw_free_pv (G.lt k hk)]
                  · intro k hk _
                    simp [pre, wipeR]
                have h2 : mLc [17] (mItems (mVar 6)) (tNm 17) (mTest (mOp notinD (mVar 17) (mVar 15))) (mOp ixD (mOp ixD (mOp ixD (mVar 0) (mC (.int 3))) (mVar 17)) (mC (.int 3))) (pre ++ [a, some (.int z), some (.int th), some (.lst (dN (h.bound g [z, th]))), none, none]) mu = some (.ok (.lst ((g.filter fun n => !decide (n ∈ h.bound g [z, th])).map fun k => .int (h.P k).most)), mu) := by
                  rw [lc_ev (ds := g) (f := fun n => D.int (n : Int)) (fun n => !decide (n ∈ h.bound g [z, th])) (fun k => .int (h.P k).most) ?_ (by omega) ?_ ?_]
                  · simp [pre]
                  · intro k hk
                    simp [pre, wipeR]
                  · intro k hk _
                    simp [pre, wipeR, Hou.P_of (G.lt k hk)]
                simp [pre] at h1 h2
                have h3 : ((g.filter fun n => !decide (n ∈ h.bound g [z, th])).map fun k => (h.P k).most).sum = h.hands g [z, th] := rfl
                have h4 := lw_left_pv (mu := mu) (h := h) (st := mv st g th) (by rw [mv_len]; omega) (by rw [mv_len]; omega)
                by_cases b6 : h.hands g [z, th] < ((h.bound g [z, th]).length : Int)
                · have b7 := hands_nn N g [z, th]
                  cases hb : h.bound g [z, th] with
                  | nil => rw [hb] at b6; simp at b6; omega
                  | cons i l =>
                    rw [hb] at b6 h1 h2 h3
                    simp at b6 h1 h2
                    simp at h3
                    simp [pre, h1, h2, h3, Hou.barH, b6, hb, dB]
                · simp [pre, h1, h2, h3, e4, h4, Hou.barH, b6]
                  cases h.left (mv st g th) <;> simp [dO, dB]
        · have c2 : ¬ z = (h.Dr num).one ∧ ¬ z = (h.Dr num).oth := by omega
          have : g.find? (h.away st num z) = some (g.headD 0) := by
            cases g with
            | nil => exact absurd rfl G.ne
            | cons a l => 
              apply List.find?_cons_of_pos
              simp [Hou.away, c2.1, c2.2]
          simp [pre, e0, e1, c2.1, c2.2, -v_for, -List.headD_eq_head?_getD, Hou.barA, this, dB]
    · rw [if_neg b1]
      have b2 : hour < (h.Dr num).ope ∨ (h.Dr num).shu ≤ hour := by omega
      simp [m_lw_bar_01, Hou.Dr_of hn, eS, eD, b2, dB, -v_for]
end
end Eb

/-! Eb: a house is made. -/
namespace Eb
open PySem L2
def letters : List Nat := (("abcdefghijklmnopqrstuvwxyz" : Str)).cps.toList
structure NameOk (x : Str) : Prop where
  lo : 1 ≤ x.length
  hi : x.length ≤ 8
  az : ∀ c ∈ x.cps.toList, c ∈ letters
structure DorOk (zones : Int) (d : Dor) : Prop where
  o0 : 0 ≤ d.one
  oo : d.one < d.oth
  oz : d.oth < zones
  w1 : 1 ≤ d.wide
  w4 : d.wide ≤ 4
  p0 : 0 ≤ d.ope
  ps : d.ope < d.shu
  s8 : d.shu ≤ 8
structure PerOk (zones : Int) (p : Per) : Prop where
  name : NameOk p.name
  b0 : 0 ≤ p.beg
  bz : p.beg < zones
  g0 : -1 ≤ p.goal
  gz : p.goal < zones
  m0 : 0 ≤ p.most
  m4 : p.most ≤ 4
  s0 : 0 ≤ p.since
  s8 : p.since ≤ 8
  zs : ∀ z ∈ p.free ++ p.led, 1 ≤ z ∧ z < zones
  nd : (p.free ++ p.led).Nodup
  fu : p.free.Pairwise (· < ·)
  lu : p.led.Pairwise (· < ·)
structure HouOk (h : Hou) : Prop where
  z1 : 1 ≤ h.zones
  z4 : h.zones ≤ 4
  h0 : 0 ≤ h.hours
  h8 : h.hours ≤ 8
  d6 : h.doors.length ≤ 6
  dor : ∀ d ∈ h.doors, DorOk h.zones d
  p1 : 1 ≤ h.people.length
  p4 : h.people.length ≤ 4
  per : ∀ p ∈ h.people, PerOk h.zones p
  nms : (h.people.map (·.name)).Nodup
  left : h.left (h.people.map (·.beg)) = none
theorem Hou.P_mem {h : Hou} {n : Nat} (l : n < h.people.length) : h.P n ∈ h.people := List.mem_of_getElem? (Hou.P_of l)
theorem HouOk.N {h : Hou} (H : HouOk h) : HouN h := ⟨fun n => by
  by_cases l : n < h.people.length
  · exact (H.per _ (Hou.P_mem l)).m0
  · unfold Hou.P
    rw [List.getElem?_eq_none (by omega)]
    exact Int.le_refl _, H.p4⟩
@[simp] theorem must_ev {mu : Mu} {w n : D} : m_must [.bl true, w, n] mu = some (.ok .non, mu) := by
  simp [m_must]
/-- over a value -/
theorem lcK_l {own : List Nat} {ma : ME} {t : Tg} {c : M Bool} {m : ME} {rh : Rho} {mu mu1 : Mu} {ds : List D} (h : ma rh mu = some (.ok (.lst ds), mu1)) : mLcK own ma t c m rh mu = mLc own (mItems ma) t c m rh mu := by
  unfold mLcK mLc mItems
  simp only [v_bindM, h, tM_ok, v_lift, itemsOf, Option.map_some]
theorem is_door_ev {o : D} {h : Hou} {mu : Mu} (ho : insOf mu o = some (0, hF h)) {d : Dor} (k : DorOk h.zones d) : m_House_is_door [o, dDor d] mu = some (.ok (.bl true), mu) := by
  have eD : ∀ u rh, tTp 5 u (dDor d) rh = u [.int d.one, .int d.oth, .int d.wide, .int d.ope, .int d.shu] rh := fun _ _ => rfl
  simp [m_House_is_door, eD, ho, hF, k.o0, k.oo, k.oz, k.w1, k.w4, k.p0, k.ps, k.s8]
theorem is_name_ev {mu : Mu} {x : Str} (k : NameOk x) : m_is_name [.str x] mu = some (.ok (.bl true), mu) := by
  have h1 : mLc [1] (mItems (mVar 0)) (tNm 1) (mTest (mOp notinS (mVar 1) (mC (.str "abcdefghijklmnopqrstuvwxyz")))) (mVar 1) [some (.str x), none] mu = some (.ok (.lst []), mu) := by
    rw [lc_ev (ds := x.cps.toList) (f := fun c => .str ⟨#[c]⟩) (fun c => !decide (c ∈ letters)) (fun c => .str ⟨#[c]⟩) ?_ ?_ ?_ ?_]
    · have : x.cps.toList.filter (fun c => !decide (c ∈ letters)) = [] := by
        rw [List.filter_eq_nil_iff]
        intro c hc
        simp [k.az c hc]
      rw [this]
      rfl
    · simp [itemsOf]
    · have := k.hi
      show x.cps.toList.length ≤ 100000
      have : x.length = x.cps.toList.length := by simp [Str.length]
      omega
    · intro c hc
      simp [wipeR, notinS, letters]
    · intro c hc _
      simp [wipeR]
  have l1 := k.lo
  have l2 := k.hi
  have e1 : eqD mu (.lst []) (.lst []) = some (.bl true) := by rw [o_eqP rfl rfl, same_refl]
  have l3 : x.length ≤ 100000 := by omega
  have l4 : (1 : Int) ≤ x.length := by omega
  have l5 : (x.length : Int) ≤ 8 := by omega
  simp [m_is_name, h1, e1, l3, l4, l5]
theorem cut_take {α : Type} {l : List α} {n : Nat} : cutL l none (some (n : Int)) = l.take n := by
  unfold cutL
  rw [HT.sIx_nat, HT.sIx_none, List.drop_zero, Nat.sub_zero]
  by_cases h : n ≤ l.length
  · rw [Nat.min_eq_left h]
  · rw [Nat.min_eq_right (by omega), List.take_of_length_le (Nat.le_refl _), List.take_of_length_le (by omega)]
theorem inB_S {mu : Mu} {a : Str} {l : List Str} : inB mu (.str a) (.lst (l.map .str)) = some (decide (a ∈ l)) := by
  have h1 : vsOf (l.map .str) = some (l.map V.str) := by
    induction l with
    | nil => rfl
    | cons b l ih =>
      show (match vOf (.str b) with | some v => (vsOf (l.map .str)).map (v :: ·) | none => none) = _
      rw [ih]
      rfl
  show ((vsOf (l.map .str)).map fun vs => inV (.str a) vs) = _
  rw [h1, Option.map_some]
  congr 1
  unfold inV
  clear h1
  induction l with
  | nil => rfl
  | cons b l ih =>
    rw [List.map_cons, List.any_cons, ih]
    show ((b == a) || _) = _
    by_cases h : a = b
    · simp [h]
    · have : (b == a) = false := by simpa using fun z => h z.symm
      rw [this]
      simp [h]
@[simp] theorem o_inS {mu : Mu} {a : Str} {l : List Str} : inD mu (.str a) (.lst (l.map .str)) = some (.bl (decide (a ∈ l))) := by unfold inD; rw [inB_S]; rfl
theorem insI_up {x : Int} {l : List Int} (h : (x :: l).Pairwise (· ≤ ·)) : insI x l = x :: l := by
  cases l with
  | nil => rfl
  | cons a l =>
    have := (List.pairwise_cons.mp h).1 a List.mem_cons_self
    show (if x ≤ a then x :: a :: l else a :: insI x l) = _
    rw [if_pos this]
theorem srt_up {l : List Int} (h : l.Pairwise (· < ·)) : srt l = l := pw_unique (srt_perm l) (srt_pw l) (lt_le h)
@[simp] theorem o_sortT {mu : Mu} {l : List Int} (h : l.Pairwise (· < ·)) (hl : l.length < 64) : sortTupD mu [.tup (dI l)] = some (.lst (dI l)) := by
  show (match intsOf (dI l) with | some ns => if ns.length < 64 then some (D.lst ((srt ns).map .int)) else none | none => none) = _
  rw [intsOf_I]
  simp only
  rw [if_pos hl, srt_up h]
theorem o_setI {mu : Mu} {l : List Int} (hl : l.length ≤ 1000) : setD mu [.tup (dI l)] = some (.set (sdd l)) := by
  show (match intsOf (dI l) with | some ns => if ns.length ≤ 1000 then some (D.set (sdd ns)) else none | none => none) = _
  rw [intsOf_I]
  simp only
  rw [if_pos hl]
theorem sdd_len {l : List Int} (h : l.Nodup) : (sdd l).length = l.length := (nd_perm (lt_nd (sdd_pw l)) h fun k => sdd_mem).length_eq
theorem upI_lo : ∀ (g : List Int) (lo m : Int), g.Pairwise (· < ·) → (∀ n ∈ g, lo ≤ n ∧ n < m) → (g.length : Int) ≤ m - lo ∨ g = []
  | [], _, _, _, _ => .inr rfl
  | a :: g, lo, m, h1, h2 => by
    rw [List.pairwise_cons] at h1
    have h3 := h2 a List.mem_cons_self
    refine .inl ?_
    rcases upI_lo g (a + 1) m h1.2 fun n hn => ⟨h1.1 n hn, (h2 n (List.mem_cons_of_mem _ hn)).2⟩ with h | h
    · simp; omega
    · subst h; simp; omega
theorem PerOk.fl {z : Int} {p : Per} (k : PerOk z p) (z4 : z ≤ 4) : p.free.length ≤ 3 ∧ p.led.length ≤ 3 := by
  constructor
  · rcases upI_lo p.free 1 z k.fu fun n hn => k.zs n (List.mem_append_left _ hn) with q | q
    · omega
    · simp [q]
  · rcases upI_lo p.led 1 z k.lu fun n hn => k.zs n (List.mem_append_right _ hn) with q | q
    · omega
    · simp [q]
theorem pl_tI (l : List Int) : pl 12 (.tup (dI l)) = true := pl_I 10 l
theorem is_person_ev {o : D} {h : Hou} {mu : Mu} (ho : insOf mu o = some (0, hF h)) (H : HouOk h) {n : Nat} (hn : n < h.people.length) : m_House_is_person [o, .int n] mu = some (.ok (.bl true), mu) := by
  have k := H.per _ (Hou.P_mem hn)
  have f4 := H.p4
  have eP : ∀ u rh, tTp 7 u (dPer (h.P n)) rh = u [.str (h.P n).name, .int (h.P n).beg, .int (h.P n).goal, .int (h.P n).most, .int (h.P n).since, .tup (dI (h.P n).free), .tup (dI (h.P n).led)] rh := fun _ _ => rfl
  obtain ⟨fl, ll⟩ := k.fl H.z4
  have h1 : ∀ a b c d e i j k l m, mLc [10] (mItems (mSl (mFld 0 3 (mVar 0)) (mNoP) (mPart (mVar 1)))) (tNm 10) (mYes) (mOp ixD (mVar 10) (mC (.int 0))) [some o, some (.int n), a, b, c, d, e, i, j, k, l, m] mu = some (.ok (.lst (((h.people.take n).map (·.name)).map .str)), mu) := by
    intros
    rw [lc_ev (ds := h.people.take n) (f := dPer) (fun _ => true) (fun p => .str p.name) ?_ ?_ ?_ ?_]
    · rw [fil_true, List.map_map]
      rfl
    · simp [ho, hF, cut_take]
    · simp; omega
    · intro p hp
      simp
    · intro p hp _
      simp [wipeR]
  have h2 : ∀ a b c d e i j k l m, mLc [11] (mItems (mVar 9)) (tNm 11) (mNot (mTest (mCh leD ltD (mC (.int 1)) (mVar 11) (mFld 0 0 (mVar 0))))) (mVar 11) [some o, a, b, c, d, e, i, j, k, some (.tup (dI ((h.P n).free ++ (h.P n).led))), l, m] mu = some (.ok (.lst (dI [])), mu) := by
    intros
    rw [lc_ev (ds := (h.P n).free ++ (h.P n).led) (f := D.int) (fun z => !(decide (1 ≤ z) && decide (z < h.zones))) D.int ?_ ?_ ?_ ?_]
    · have : ((h.P n).free ++ (h.P n).led).filter (fun z => !(decide (1 ≤ z) && decide (z < h.zones))) = [] := by
        rw [List.filter_eq_nil_iff]
        intro z hz
        have := k.zs z hz
        simp [this.1, this.2]
      rw [this]
    · simp
    · simp; omega
    · intro z hz
      have := k.zs z hz
      simp [wipeR, ho, hF, this.1, this.2]
    · intro z hz _
      simp [wipeR]
  have h3 : (h.P n).name ∉ (h.people.take n).map (·.name) := by
    intro q
    rw [List.mem_map] at q
    obtain ⟨p, hp, e⟩ := q
    obtain ⟨i, hi, rfl⟩ := List.getElem_of_mem hp
    rw [List.length_take] at hi
    have hi2 : i < h.people.length := by omega
    have hin : i < n := by omega
    rw [List.getElem_take] at e
    have nd := H.nms
    have q := (List.pairwise_iff_getElem.mp nd) i n (by simpa using hi2) (by simpa using hn) hin
    rw [List.getElem_map, List.getElem_map] at q
    apply q
    rw [e]
    have := Hou.P_of hn
    rw [List.getElem?_eq_getElem hn] at this
    rw [← Option.some.inj this]
  have h4 : neD mu (.lst []) (.lst []) = some (.bl false) := by rw [o_neP rfl rfl, same_refl]; rfl
  have h5 := o_setI (mu := mu) (l := (h.P n).free ++ (h.P n).led) (by simp; omega)
  have h6 : ∀ l : List Int, eqD mu (.tup (dI l)) (.tup (dI l)) = some (.bl true) := fun l => by rw [o_eqP (pl_tI l) (pl_tI l), same_refl]
  have h7 := sdd_len k.nd
  have h8 : ((h.P n).free.length + (h.P n).led.length) ≤ 100000 := by omega
  generalize (h.people.take n).map (·.name) = ls at *
  simp at h2 h5 h7
  have q1 : (h.P n).free.length < 64 := by omega
  have q2 : (h.P n).led.length < 64 := by omega
  have b1 := k.b0
  have b2 := k.bz
  have b3 := k.g0
  have b4 := k.gz
  have b5 := k.m0
  have b6 := k.m4
  have b7 := k.s0
  have b8 := k.s8
  simp [m_House_is_person, ho, hF, Hou.P_of hn, eP, is_name_ev k.name, h1, h3, b1, b2, b3, b4, b5, b6, b7, b8, lim_ok, h8, h2, h4, h5, lenSetD, h7, k.fu, k.lu, h6, q1, q2]

theorem init_ev {h : Hou} (H : HouOk h) : m_House_init_01 [.cel 0, .int h.zones, .int h.hours, .lst (h.doors.map dDor), .lst (h.people.map dPer)] [.ins 0 []] = some (.ok .non, [.ins 0 (hF h)]) := by
  have a1 := H.z1
  have a2 := H.z4
  have a3 := H.h0
  have a4 := H.h8
  have a5 := H.d6
  have a6 := H.p1
  have a7 := H.p4
  have a8 : (h.doors.length : Int) ≤ 6 := by omega
  have a9 : (1 : Int) ≤ h.people.length := by omega
  have b1 : (h.people.length : Int) ≤ 4 := by omega
  have b2 : h.doors.length ≤ 1000000 := by omega
  have b3 : h.people.length ≤ 1000000 := by omega
  have ho : insOf [.ins 0 (hF h)] (.cel 0) = some (0, hF h) := rfl
  have hm : [Cell.ins 0 [D.int h.zones, .int h.hours, .lst (h.doors.map dDor), .lst (h.people.map dPer)]] = [.ins 0 (hF h)] := rfl
  simp [m_House_init_01, a1, a2, a3, a4, a8, a9, b1, -v_for, hm]
  have ho : insOf [.ins 0 (hF h)] (.cel 0) = some (0, hF h) := rfl
  refine seq_nx (mu1 := [.ins 0 (hF h)]) (ds := List.range h.doors.length) (f := fun n => D.int (n : Int)) (fun rh => ∃ a, rh = [some (.cel 0), some (.int h.zones), some (.int h.hours), some (.lst (h.doors.map dDor)), some (.lst (h.people.map dPer)), a, none, none]) ?_ ⟨none, rfl⟩ ?_ (fun o => fin o = some (Rs.ok D.non, [.ins 0 (hF h)])) ?_
  · simp [b2]
  · rintro n hn _ ⟨a, rfl⟩
    have hn := List.mem_range.mp hn
    have hd := is_door_ev ho (H.dor _ (List.mem_of_getElem? (Hou.Dr_of hn)))
    simp [Hou.Dr_of hn, hd]
  · rintro _ ⟨a, rfl⟩
    simp only [v_seq]
    refine seq_nx (mu1 := [.ins 0 (hF h)]) (ds := List.range h.people.length) (f := fun n => D.int (n : Int)) (fun rh => ∃ a, rh = [some (.cel 0), some (.int h.zones), some (.int h.hours), some (.lst (h.doors.map dDor)), some (.lst (h.people.map dPer)), a, none, none]) ?_ ⟨a, rfl⟩ ?_ (fun o => fin o = some (Rs.ok D.non, [.ins 0 (hF h)])) ?_
    · simp [b3]
    · rintro n hn _ ⟨a, rfl⟩
      have hn := List.mem_range.mp hn
      have hd := is_person_ev ho H hn
      simp [hd]
    · rintro _ ⟨a, rfl⟩
      have h1 : mLcK [7] (mVar 4) (tNm 7) (mYes) (mOp ixD (mVar 7) (mC (.int 1))) [some (.cel 0), some (.int h.zones), some (.int h.hours), some (.lst (h.doors.map dDor)), some (.lst (h.people.map dPer)), a, none, none] [.ins 0 (hF h)] = some (.ok (.lst (dI (h.people.map (·.beg)))), [.ins 0 (hF h)]) := by
        rw [lcK_l (ds := h.people.map dPer) rfl, lc_ev (ds := h.people) (f := dPer) (fun _ => true) (fun p => .int p.beg) ?_ ?_ ?_ ?_]
        · rw [fil_true, dI, List.map_map]
          rfl
        · simp
        · omega
        · intro p hp
          simp
        · intro p hp _
          simp [wipeR]
      have h2 := left_one_ev ho (st := h.people.map (·.beg)) (by simp) (by simp; omega)
      rw [H.left] at h2
      simp only [v_seq, v_asg, v_bindS, v_call, v_cons, v_cb, v_bindM, v_var, h1]
      generalize h.people.map (·.beg) = bs at *
      simp [h1, h2, dO]
theorem made_ev {h : Hou} (H : HouOk h) {mu : Mu} : mPure m_lw_made_01 [dH h] mu = some (.ok (.ins 0 (hF h)), mu) := by
  refine pure_of (mu' := [.dead]) (by simp) ?_ (by simp)
  have e := init_ev H
  simp [m_lw_made_01, mMake, e]
theorem doors_ev {mu : Mu} {h : Hou} : m_House_doors [.ins 0 (hF h)] mu = some (.ok (.lst (h.doors.map dDor)), mu) := by
  simp [m_House_doors, hF]
theorem people_ev {mu : Mu} {h : Hou} : m_House_people [.ins 0 (hF h)] mu = some (.ok (.lst (h.people.map dPer)), mu) := by
  simp [m_House_people, hF]
end Eb

/-! Eb: what is drawn. -/
namespace Eb
open PySem L2
structure Row where
  c : Nat
  a : Int
def rowD (ns : List Int) (r : Row) : Cell := .lst [.scr ns, .int (r.c : Int), .int r.a]
def nxt (ns : List Int) (r : Row) : Row := ⟨r.c + 1, match ns[r.c]? with
  | some x => (r.a * 48271 + x + 11) % 2147483647
  | none => (r.a * 48271 + 11) % 2147483647⟩
def raw (ns : List Int) (r : Row) : Int := match ns[r.c]? with
  | some x => x
  | none => (r.a * 48271 + 11) % 2147483647 / 7
theorem taken_ev {ns : List Int} {r : Row} {rest : Mu} {m : Int} (hm : 0 < m) : m_lw_taken [.cel 0, .int m] (rowD ns r :: rest) = some (.ok (.int (raw ns r % m)), rowD ns (nxt ns r) :: rest) := by
  have q : ixN 3 1 = some 1 := rfl
  have q2 : ixN 3 2 = some 2 := rfl
  have s1 : smallI 48271 = true := by decide
  by_cases h : r.c < ns.length
  · have h1 : ¬ ((ns.length : Int) < r.c + 1) := by omega
    simp [m_lw_taken, rowD, q, q2, h1, s1, raw, nxt, hm, h]
  · have h1 : (ns.length : Int) < r.c + 1 := by omega
    have h2 : ns[r.c]? = none := List.getElem?_eq_none (by omega)
    simp [m_lw_taken, rowD, q, q2, h1, s1, raw, nxt, hm, h2]

theorem atI_mod {α : Type} {l : List α} {n x : Int} {d : α} (hl : (l.length : Int) = n) (h0 : 0 < n) : atI l (x % n) = some (l.getD (x % n).toNat d) := by
  have h1 := Int.emod_nonneg x (show n ≠ 0 by omega)
  have h2 := Int.emod_lt_of_pos x h0
  have e : x % n = (((x % n).toNat : Nat) : Int) := by omega
  rw [e, atI_nat]
  simp only [Int.toNat_natCast]
  rw [List.getD_eq_getElem?_getD, List.getElem?_eq_getElem (by omega)]
  rfl
theorem getD_mem {α : Type} {l : List α} {i : Nat} {d : α} (h : i < l.length) : l.getD i d ∈ l := by
  rw [List.getD_eq_getElem?_getD, List.getElem?_eq_getElem h]
  exact List.getElem_mem h
theorem r_11 : rng1 [.int 11] = some ((List.range 11).map fun (n : Nat) => .int (n : Int)) := r_1 (n := 11) (by omega)
theorem r_4 : rng1 [.int 4] = some ((List.range 4).map fun (n : Nat) => .int (n : Int)) := r_1 (n := 4) (by omega)
theorem letters_len : letters.length = 26 := by decide +kernel
theorem cut_S {z : Str} {i : Nat} {c : Nat} : cutS z none (some (i : Int)) ++ (⟨#[c]⟩ : Str) = ⟨(z.cps.toList.take i ++ [c]).toArray⟩ := by
  show (⟨(cutS z none (some (i : Int))).cps ++ #[c]⟩ : Str) = _
  congr 1
  have : z.length = z.cps.toList.length := by simp [Str.length]
  unfold cutS
  rw [HT.sIx_nat, HT.sIx_none, List.drop_zero, Nat.sub_zero, this]
  by_cases h : i ≤ z.cps.toList.length
  · rw [Nat.min_eq_left h]
    simp
  · rw [Nat.min_eq_right (by omega), List.take_of_length_le (Nat.le_refl _), List.take_of_length_le (by omega)]
    apply Array.ext'
    simp
theorem slD_S {mu : Mu} {z : Str} {lo hi : Option Int} (h : z.length ≤ 100000) : slD mu (.str z) lo hi = some (.str (cutS z lo hi)) := if_pos h
theorem smod (s : Int) (k : Nat) : 0 ≤ (s + 3 * (k : Int)) % 8 ∧ (s + 3 * (k : Int)) % 8 < 8 := ⟨Int.emod_nonneg _ (by omega), Int.emod_lt_of_pos _ (by omega)⟩
theorem names_ev (ns : List Int) (r : Row) : ∃ nms : List Str, nms.length = 4 ∧ (∀ x ∈ nms, NameOk x) ∧ nms.Nodup ∧ ∀ rest, m_lw_names [.cel 0] (rowD ns r :: rest) = some (.ok (.lst (nms.map .str)), rowD ns (nxt ns (nxt ns r)) :: rest) := by
  obtain ⟨t, ht⟩ : ∃ t, raw ns r % 26 = t := ⟨_, rfl⟩
  obtain ⟨s, hs⟩ : ∃ t, raw ns (nxt ns r) % 8 = t := ⟨_, rfl⟩
  let sg : Nat → Nat := fun k => letters.getD ((t + 5 * (k : Int)) % 26).toNat 0
  have hsg : ∀ k, sg k ∈ letters := fun k => getD_mem (by
    have h1 := Int.emod_nonneg (t + 5 * (k : Int)) (show (26 : Int) ≠ 0 by omega)
    have h2 := Int.emod_lt_of_pos (t + 5 * (k : Int)) (show (0 : Int) < 26 by omega)
    rw [letters_len]
    omega)
  let bs : List Nat := [sg 4, sg 5, sg 6, sg 7, sg 8, sg 9, sg 10]
  let im : Nat → Nat := fun k => ((s + 3 * (k : Int)) % 8).toNat
  let nm : Nat → Str := fun k => ⟨(bs.take (im k) ++ [sg k]).toArray⟩
  have him : ∀ k, im k < 8 := fun k => by
    have := smod s k
    show ((s + 3 * (k : Int)) % 8).toNat < 8
    omega
  have len : ∀ k, (nm k).length = im k + 1 := fun k => by
    have := him k
    show (bs.take (im k) ++ [sg k]).toArray.size = _
    simp [bs]
    omega
  refine ⟨(List.range 4).map nm, by simp, ?_, ?_, ?_⟩
  · intro x hx
    obtain ⟨k, _, rfl⟩ := List.mem_map.mp hx
    have := him k
    refine ⟨by rw [len]; omega, by rw [len]; omega, ?_⟩
    intro c hc
    rw [show (nm k).cps.toList = bs.take (im k) ++ [sg k] from rfl] at hc
    rw [List.mem_append] at hc
    rcases hc with hc | hc
    · have := List.mem_of_mem_take hc
      simp only [bs, List.mem_cons, List.not_mem_nil, or_false] at this
      rcases this with h | h | h | h | h | h | h <;> (rw [h]; exact hsg _)
    · rw [List.mem_singleton] at hc
      rw [hc]
      exact hsg _
  · have ne : ∀ i j : Nat, im i ≠ im j → nm i ≠ nm j := fun i j h e => h (by
      have h1 := len i
      have h2 := len j
      rw [e] at h1
      omega)
    have h0 := smod s 0
    have h1 := smod s 1
    have h2 := smod s 2
    have h3 := smod s 3
    have q : ∀ i j : Nat, i < 4 → j < 4 → i ≠ j → im i ≠ im j := by
      intro i j hi hj hij e
      have e : ((s + 3 * (i : Int)) % 8).toNat = ((s + 3 * (j : Int)) % 8).toNat := e
      have := smod s i
      have := smod s j
      omega
    show (List.map nm (List.range 4)).Pairwise (· ≠ ·)
    rw [List.pairwise_map]
    have : (List.range 4).Pairwise (· ≠ ·) := List.nodup_range
    refine (List.Pairwise.and_mem.mp this).imp ?_
    rintro i j ⟨hi, hj, hij⟩
    exact ne _ _ (q i j (List.mem_range.mp hi) (List.mem_range.mp hj) hij)
  · intro rest
    have h1 : ∀ a, mLc [5] (mRng1 (mCons (mC (.int 11)) (mNil))) (tNm 5) (mYes) (mOp ixD (mC (.str "abcdefghijklmnopqrstuvwxyz")) (mOp modD (mOp addD (mVar 1) (mOp mulD (mC (.int 5)) (mVar 5))) (mC (.int 26)))) [some (.cel 0), some (.int t), some (.int s), a, none, none] (rowD ns (nxt ns (nxt ns r)) :: rest) = some (.ok (.lst ((List.range 11).map fun k => .str ⟨#[sg k]⟩)), rowD ns (nxt ns (nxt ns r)) :: rest) := by
      intro a
      rw [lc_ev (ds := List.range 11) (f := fun n => D.int (n : Int)) (fun _ => true) (fun k => .str ⟨#[sg k]⟩) ?_ ?_ ?_ ?_]
      · rw [fil_true]
      · simp [r_11]
      · simp
      · intro k hk
        simp
      · intro k hk _
        have e1 : ("abcdefghijklmnopqrstuvwxyz" : Str).length ≤ 100000 := by decide +kernel
        have e2 := atI_mod (l := letters) (n := 26) (x := t + 5 * (k : Int)) (d := 0) (by rw [letters_len]; rfl) (by omega)
        have s5 : smallI 5 = true := by decide
        unfold letters at e2
        simp [wipeR, s5, e1, e2, sg, letters]
    have h2 : ∀ (mu : Mu) (a b c : Option D), mLc [5] (mRng1 (mCons (mC (.int 4)) (mNil))) (tNm 5) (mYes) (mOp addD (mSl (mVar 4) (mNoP) (mPart (mOp modD (mOp addD (mVar 2) (mOp mulD (mC (.int 3)) (mVar 5))) (mC (.int 8))))) (mOp ixD (mVar 3) (mVar 5))) [a, b, some (.int s), some (.lst ((List.range 11).map fun k => .str ⟨#[sg k]⟩)), some (.str ⟨#[sg 4, sg 5, sg 6, sg 7, sg 8, sg 9, sg 10]⟩), c] mu = some (.ok (.lst ((List.range 4).map fun k => .str (nm k))), mu) := by
      intro mu a b c
      rw [lc_ev (ds := List.range 4) (f := fun n => D.int (n : Int)) (fun _ => true) (fun k => .str (nm k)) ?_ ?_ ?_ ?_]
      · rw [fil_true]
      · simp [r_4]
      · simp
      · intro k hk
        simp
      · intro k hk _
        have hk := List.mem_range.mp hk
        have s3 : smallI 3 = true := by decide
        have e3 : (s + 3 * (k : Int)) % 8 = ((im k : Nat) : Int) := by
          have := smod s k
          show _ = (((s + 3 * (k : Int)) % 8).toNat : Int)
          omega
        have e4 : ((List.range 11).map fun k => D.str ⟨#[sg k]⟩)[k]? = some (.str ⟨#[sg k]⟩) := by
          rw [List.getElem?_map, List.getElem?_range (by omega)]
          rfl
        have e5 : slD mu (.str ⟨#[sg 4, sg 5, sg 6, sg 7, sg 8, sg 9, sg 10]⟩) none (some ((im k : Nat) : Int)) = some (.str (cutS ⟨#[sg 4, sg 5, sg 6, sg 7, sg 8, sg 9, sg 10]⟩ none (some ((im k : Nat) : Int)))) := by
          exact slD_S (show 7 ≤ 100000 by omega)
        have e6 : (cutS ⟨#[sg 4, sg 5, sg 6, sg 7, sg 8, sg 9, sg 10]⟩ none (some ((im k : Nat) : Int))).length + (⟨#[sg k]⟩ : Str).length ≤ 100000 := by
          have e7 : (cutS ⟨#[sg 4, sg 5, sg 6, sg 7, sg 8, sg 9, sg 10]⟩ none (some ((im k : Nat) : Int)) ++ (⟨#[sg k]⟩ : Str)).length ≤ 100000 := by
            rw [cut_S]
            have := len k
            have := him k
            show (nm k).length ≤ 100000
            omega
          have e8 : ∀ x y : Str, (x ++ y).length = x.length + y.length := fun x y => by
            show (x.cps ++ y.cps).size = _
            rw [Array.size_append]
            rfl
          rw [e8] at e7
          exact e7
        simp [wipeR, s3, e3, e4, e5, lim_ok e6, cut_S, nm, bs]
    have h3 : ∀ mu : Mu, joinF (.str "") [.lst [.str ⟨#[sg 4]⟩, .str ⟨#[sg 5]⟩, .str ⟨#[sg 6]⟩, .str ⟨#[sg 7]⟩, .str ⟨#[sg 8]⟩, .str ⟨#[sg 9]⟩, .str ⟨#[sg 10]⟩]] mu = some (.str ⟨#[sg 4, sg 5, sg 6, sg 7, sg 8, sg 9, sg 10]⟩, mu) := by
      intro mu
      rfl
    have h4 : cutL ((List.range 11).map fun k => D.str ⟨#[sg k]⟩) (some 4) none = [.str ⟨#[sg 4]⟩, .str ⟨#[sg 5]⟩, .str ⟨#[sg 6]⟩, .str ⟨#[sg 7]⟩, .str ⟨#[sg 8]⟩, .str ⟨#[sg 9]⟩, .str ⟨#[sg 10]⟩] := by rfl
    simp [m_lw_names, taken_ev, ht, hs, h1, h4, h3, h2, isStr]

/-! ### a person -/
theorem atI_dI {l : List Int} {n x : Int} (hl : (l.length : Int) = n) (h0 : 0 < n) : atI (dI l) (x % n) = some (.int (l.getD (x % n).toNat 0)) := by
  rw [atI_mod (d := .int 0) (by simpa using hl) h0]
  congr 1
  rw [List.getD_eq_getElem?_getD, List.getD_eq_getElem?_getD, List.getElem?_map]
  cases l[(x % n).toNat]? <;> rfl
def pk (l : List Int) (n x : Int) : Int := l.getD (x % n).toNat 0
theorem pk_mem {l : List Int} {n x : Int} (hl : (l.length : Int) = n) (h0 : 0 < n) : pk l n x ∈ l := getD_mem (by
  have h1 := Int.emod_nonneg x (show n ≠ 0 by omega)
  have h2 := Int.emod_lt_of_pos x h0
  omega)
@[simp] theorem atI_p2 {a b x : Int} : atI [D.int a, .int b] (x % 2) = some (.int (pk [a, b] 2 x)) := atI_dI (l := [a, b]) rfl (by omega)
@[simp] theorem atI_p3 {a b c x : Int} : atI [D.int a, .int b, .int c] (x % 3) = some (.int (pk [a, b, c] 3 x)) := atI_dI (l := [a, b, c]) rfl (by omega)
@[simp] theorem atI_p4 {a b c d x : Int} : atI [D.int a, .int b, .int c, .int d] (x % 4) = some (.int (pk [a, b, c, d] 4 x)) := atI_dI (l := [a, b, c, d]) rfl (by omega)
@[simp] theorem atI_p5 {a b c d e x : Int} : atI [D.int a, .int b, .int c, .int d, .int e] (x % 5) = some (.int (pk [a, b, c, d, e] 5 x)) := atI_dI (l := [a, b, c, d, e]) rfl (by omega)
def zstep (ns : List Int) (s : List Int × List Int × Row) (z : Int) : List Int × List Int × Row :=
  if raw ns s.2.2 % 5 < 2 then (s.1 ++ [z], s.2.1, nxt ns s.2.2) else if raw ns s.2.2 % 5 < 4 then (s.1, s.2.1 ++ [z], nxt ns s.2.2) else (s.1, s.2.1, nxt ns s.2.2)
structure Zok (f l : List Int) : Prop where
  fu : f.Pairwise (· < ·)
  lu : l.Pairwise (· < ·)
  dj : ∀ z ∈ f, z ∉ l
theorem zfold {ns : List Int} (lo hi : Int) : ∀ (zs : List Int) (f l : List Int) (r : Row), zs.Pairwise (· < ·) → (∀ z ∈ zs, lo ≤ z ∧ z < hi) → Zok f l → (∀ z ∈ f ++ l, lo ≤ z ∧ z < hi ∧ ∀ y ∈ zs, z < y) →
    Zok (zs.foldl (zstep ns) (f, l, r)).1 (zs.foldl (zstep ns) (f, l, r)).2.1 ∧ ∀ z ∈ (zs.foldl (zstep ns) (f, l, r)).1 ++ (zs.foldl (zstep ns) (f, l, r)).2.1, lo ≤ z ∧ z < hi
  | [], f, l, r, _, _, k, h => ⟨k, fun z hz => ⟨(h z hz).1, (h z hz).2.1⟩⟩
  | y :: zs, f, l, r, u, b, k, h => by
    rw [List.foldl_cons]
    rw [List.pairwise_cons] at u
    have hb := b y List.mem_cons_self
    have b' : ∀ z ∈ zs, lo ≤ z ∧ z < hi := fun z hz => b z (List.mem_cons_of_mem _ hz)
    have hfy : ∀ z ∈ f, z < y := fun z hz => (h z (List.mem_append_left _ hz)).2.2 y List.mem_cons_self
    have hly : ∀ z ∈ l, z < y := fun z hz => (h z (List.mem_append_right _ hz)).2.2 y List.mem_cons_self
    have app : ∀ g : List Int, g.Pairwise (· < ·) → (∀ z ∈ g, z < y) → (g ++ [y]).Pairwise (· < ·) := fun g hg hy => by
      rw [List.pairwise_append]
      exact ⟨hg, List.pairwise_singleton _ _, fun a ha b hb => by rw [List.mem_singleton] at hb; rw [hb]; exact hy a ha⟩
    have old : ∀ z ∈ f ++ l, lo ≤ z ∧ z < hi ∧ ∀ x ∈ zs, z < x := fun z hz => ⟨(h z hz).1, (h z hz).2.1, fun x hx => (h z hz).2.2 x (List.mem_cons_of_mem _ hx)⟩
    unfold zstep
    split
    · refine zfold lo hi zs _ _ _ u.2 b' ⟨app f k.fu hfy, k.lu, fun z hz => ?_⟩ fun z hz => ?_
      · rw [List.mem_append, List.mem_singleton] at hz
        rcases hz with hz | rfl
        · exact k.dj z hz
        · exact fun q => by have := hly _ q; omega
      · rw [List.mem_append, List.mem_append, List.mem_singleton] at hz
        rcases hz with (hz | rfl) | hz
        · exact old z (List.mem_append_left _ hz)
        · exact ⟨hb.1, hb.2, u.1⟩
        · exact old z (List.mem_append_right _ hz)
    · split
      · refine zfold lo hi zs _ _ _ u.2 b' ⟨k.fu, app l k.lu hly, fun z hz => ?_⟩ fun z hz => ?_
        · rw [List.mem_append, List.mem_singleton]
          rintro (q | rfl)
          · exact k.dj z hz q
          · have := hfy _ hz; omega
        · rw [List.mem_append, List.mem_append, List.mem_singleton] at hz
          rcases hz with hz | hz | rfl
          · exact old z (List.mem_append_left _ hz)
          · exact old z (List.mem_append_right _ hz)
          · exact ⟨hb.1, hb.2, u.1⟩
      · exact zfold lo hi zs _ _ _ u.2 b' k old
theorem zlist (zones : Int) (h1 : 1 ≤ zones) (h4 : zones ≤ 4) : ∃ zs : List Int, rng2 [.int 1, .int zones] = some (dI zs) ∧ zs.Pairwise (· < ·) ∧ (∀ z ∈ zs, 1 ≤ z ∧ z < zones) ∧ zs.length ≤ 3 := by
  have : zones = 1 ∨ zones = 2 ∨ zones = 3 ∨ zones = 4 := by omega
  rcases this with rfl | rfl | rfl | rfl
  · exact ⟨[], rfl, by simp, by simp, by simp⟩
  · exact ⟨[1], rfl, by simp, by simp, by simp⟩
  · exact ⟨[1, 2], rfl, by simp, by simp, by simp⟩
  · exact ⟨[1, 2, 3], rfl, by simp, by simp, by simp⟩
theorem zlen {ns : List Int} : ∀ (zs : List Int) (f l : List Int) (r : Row), (zs.foldl (zstep ns) (f, l, r)).1.length ≤ f.length + zs.length ∧ (zs.foldl (zstep ns) (f, l, r)).2.1.length ≤ l.length + zs.length
  | [], f, l, r => by simp
  | z :: zs, f, l, r => by
    rw [List.foldl_cons]
    rw [show zstep ns (f, l, r) z = if raw ns r % 5 < 2 then (f ++ [z], l, nxt ns r) else if raw ns r % 5 < 4 then (f, l ++ [z], nxt ns r) else (f, l, nxt ns r) from rfl]
    split
    · have := zlen (ns := ns) zs (f ++ [z]) l (nxt ns r)
      simp at this ⊢
      omega
    · split
      · have := zlen (ns := ns) zs f (l ++ [z]) (nxt ns r)
        simp at this ⊢
        omega
      · have := zlen (ns := ns) zs f l (nxt ns r)
        simp at this ⊢
        omega
theorem person_ev (ns : List Int) (r : Row) (name : Str) (hn : NameOk name) (zones : Int) (h1 : 1 ≤ zones) (h4 : zones ≤ 4) : ∃ (p : Per), PerOk zones p ∧ p.name = name ∧ p.beg = 0 ∧ ∃ r', m_lw_person [.cel 0, .str name, .int zones] [rowD ns r] = some (.ok (dPer p), [rowD ns r', .dead, .dead]) := by
  obtain ⟨zs, e1, zu, zb, zl⟩ := zlist zones h1 h4
  have fz := zfold (ns := ns) 1 zones zs [] [] r zu zb ⟨List.Pairwise.nil, List.Pairwise.nil, by simp⟩ (by simp)
  have len := zlen (ns := ns) zs [] [] r
  simp [m_lw_person, -v_for]
  refine seq_foldP (mu1 := [rowD ns r, .lst [], .lst []]) (ds := zs) (f := D.int) (zstep ns) (fun s rh mu => mu = [rowD ns s.2.2, .lst (dI s.1), .lst (dI s.2.1)] ∧ ∃ a b, rh = [some (.cel 0), some (.str name), some (.int zones), some (.cel 1), some (.cel 2), a, b, none, none, none]) ([], [], r) ?_ ⟨rfl, none, none, rfl⟩ ?_ (fun o => ∃ (p : Per), PerOk zones p ∧ p.name = name ∧ p.beg = 0 ∧ ∃ r', fin o = some (Rs.ok (dPer p), [rowD ns r', .dead, .dead])) ?_
  · simp [e1]
  · rintro pre z post e _ _ ⟨rfl, a, b, rfl⟩
    have len := zlen (ns := ns) pre [] [] r
    have pl : pre.length ≤ zs.length := by rw [e]; simp
    generalize pre.foldl (zstep ns) ([], [], r) = s at *
    obtain ⟨f, l, r1⟩ := s
    simp at len
    have f1 : f.length < 100000 := by omega
    have f2 : l.length < 100000 := by omega
    by_cases c1 : raw ns r1 % 5 < 2
    · simp [taken_ev, zstep, c1, f1, f2]
      exact ⟨_, _, ⟨rfl, rfl⟩, rfl, _, _, rfl⟩
    · by_cases c2 : raw ns r1 % 5 < 4
      · simp [taken_ev, zstep, c1, c2, f1, f2]
        exact ⟨_, _, ⟨rfl, rfl⟩, rfl, _, _, rfl⟩
      · simp [taken_ev, zstep, c1, c2, f1, f2]
        exact ⟨_, _, ⟨rfl, rfl⟩, rfl, _, _, rfl⟩
  · rintro _ _ ⟨rfl, a, b, rfl⟩
    generalize zs.foldl (zstep ns) ([], [], r) = s at *
    obtain ⟨f, l, r2⟩ := s
    have z1 : 0 < zones + 1 := by omega
    simp [taken_ev, z1]
    have q : ∀ m, 0 ≤ raw ns m % (zones + 1) ∧ raw ns m % (zones + 1) < zones + 1 := fun m => ⟨Int.emod_nonneg _ (by omega), Int.emod_lt_of_pos _ z1⟩
    have q5 : ∀ m, 0 ≤ raw ns m % 5 ∧ raw ns m % 5 < 5 := fun m => ⟨Int.emod_nonneg _ (by omega), Int.emod_lt_of_pos _ (by omega)⟩
    have q9 : ∀ m, 0 ≤ raw ns m % 9 ∧ raw ns m % 9 < 9 := fun m => ⟨Int.emod_nonneg _ (by omega), Int.emod_lt_of_pos _ (by omega)⟩
    refine ⟨⟨name, 0, _, _, _, f, l⟩, ?_, rfl, rfl, rfl, _, rfl⟩
    have g1 := pk_mem (l := [zones - 1, zones - 1, raw ns (nxt ns (nxt ns (nxt ns (nxt ns r2)))) % (zones + 1) - 1]) (n := 3) (x := raw ns (nxt ns (nxt ns (nxt ns (nxt ns (nxt ns r2)))))) rfl (by omega)
    have g2 := pk_mem (l := [0, 0, 1, 2, raw ns r2 % 5]) (n := 5) (x := raw ns (nxt ns r2)) rfl (by omega)
    have g3 := pk_mem (l := [0, 0, 0, raw ns (nxt ns (nxt ns r2)) % 9]) (n := 4) (x := raw ns (nxt ns (nxt ns (nxt ns r2)))) rfl (by omega)
    simp only [List.mem_cons, List.not_mem_nil, or_false] at g1 g2 g3
    have r1 := q (nxt ns (nxt ns (nxt ns (nxt ns r2))))
    have r5 := q5 r2
    have r9 := q9 (nxt ns (nxt ns r2))
    obtain ⟨⟨k1, k2, k3⟩, k4⟩ := fz
    exact { name := hn, b0 := by show (0 : Int) ≤ 0; omega, bz := by show (0 : Int) < zones; omega, g0 := by show -1 ≤ pk _ _ _; omega, gz := by show pk _ _ _ < zones; omega, m0 := by show 0 ≤ pk _ _ _; omega, m4 := by show pk _ _ _ ≤ 4; omega, s0 := by show 0 ≤ pk _ _ _; omega, s8 := by show pk _ _ _ ≤ 8; omega, zs := k4, fu := k1, lu := k2,
            nd := by
              rw [List.nodup_append]
              exact ⟨k1.imp (fun h => Int.ne_of_lt h), k2.imp (fun h => Int.ne_of_lt h), fun a ha b hb e => k3 a ha (e ▸ hb)⟩ }
end Eb

/-! Eb: a house is drawn. -/
namespace Eb
open PySem L2
theorem row_of {f : Phi} {rest : List D} {c c' : Cell} {mu more : Mu} {d : D} (h1 : cfL rest = true) (h2 : cfC c = true) (h : f (.cel 0 :: rest) [c] = some (.ok d, c' :: more)) (h3 : cf d = true) (h4 : cfC c' = true) : mRow f (.cel 0 :: rest) (c :: mu) = some (.ok d, c' :: mu) := by
  show (if cfL rest = true ∧ cfC c = true then (match f (.cel 0 :: rest) [c] with
        | some (r, c' :: _) => if cfR r = true ∧ cfC c' = true then some (r, (c :: mu).set 0 c') else none
        | _ => none)
      else none) = _
  rw [if_pos ⟨h1, h2⟩, h]
  show (if cfR (.ok d) = true ∧ cfC c' = true then _ else _) = _
  rw [if_pos ⟨h3, h4⟩]
  rfl
@[simp] theorem cfC_row {ns : List Int} {r : Row} : cfC (rowD ns r) = true := rfl
/-! ### left hangs on free, led, most alone -/
theorem left_congr {h h' : Hou} (e : ∀ n, (h'.P n).free = (h.P n).free ∧ (h'.P n).led = (h.P n).led ∧ (h'.P n).most = (h.P n).most) (st : List Int) : h'.left st = h.left st := by
  have e1 : ∀ n z, (h'.P n).isFree z = (h.P n).isFree z := fun n z => by unfold Per.isFree; rw [(e n).1]
  have e2 : ∀ n z, (h'.P n).may z = (h.P n).may z := fun n z => by unfold Per.may; rw [e1, (e n).2.1]
  have e3 : ∀ ps zs, h'.bound ps zs = h.bound ps zs := fun ps zs => by
    unfold Hou.bound
    congr 1
    funext n
    congr 2
    congr 1
    funext z
    rw [e1]
  have e4 : ∀ ps zs, h'.hands ps zs = h.hands ps zs := fun ps zs => by
    unfold Hou.hands
    rw [e3]
    congr 2
    funext n
    exact (e n).2.2
  unfold Hou.left
  congr 1
  funext n
  unfold Hou.leftP
  rw [e2, e1, e4, e3]
theorem left_zero {h : Hou} {st : List Int} (hz : ∀ n < st.length, S st n = 0) : h.left st = none := by
  unfold Hou.left
  rw [List.find?_eq_none]
  intro n hn
  have := hz n (List.mem_range.mp hn)
  unfold Hou.leftP
  rw [this]
  simp [Per.may, Per.isFree]
/-! ### the doors -/
theorem mod_lt {x m : Int} (h : 0 < m) : 0 ≤ x % m ∧ x % m < m := ⟨Int.emod_nonneg _ (by omega), Int.emod_lt_of_pos _ h⟩

def Per.from (p : Per) (z : Int) : Per := ⟨p.name, z, p.goal, p.most, p.since, p.free, p.led⟩
theorem r_nat {n : Nat} {d : D} (h : d = .int (n : Int)) (hn : n ≤ 1000000) : rng1 [d] = some (dN (List.range n)) := by
  rw [h]
  exact r_1 hn
theorem house_ev (ns : List Int) (r : Row) : ∃ (h : Hou), HouOk h ∧ ∃ (r' : Row) (more : Mu), m_lw_house [.cel 0] [rowD ns r] = some (.ok (dH h), rowD ns r' :: more) := by
  obtain ⟨zones, hz⟩ : ∃ z, pk [2, 3, 3, 4, 1] 5 (raw ns r) = z := ⟨_, rfl⟩
  have g1 := pk_mem (l := [2, 3, 3, 4, 1]) (n := 5) (x := raw ns r) rfl (by omega)
  rw [hz] at g1
  simp only [List.mem_cons, List.not_mem_nil, or_false] at g1
  have z1 : 1 ≤ zones := by omega
  have z4 : zones ≤ 4 := by omega
  have g2 := pk_mem (l := [5, 7]) (n := 2) (x := raw ns (nxt ns r)) rfl (by omega)
  obtain ⟨w, hw⟩ : ∃ z, pk [5, 7] 2 (raw ns (nxt ns r)) = z := ⟨_, rfl⟩
  rw [hw] at g2
  simp only [List.mem_cons, List.not_mem_nil, or_false] at g2
  have w0 : 0 < w := by omega
  have q1 := mod_lt (x := raw ns (nxt ns (nxt ns r))) w0
  obtain ⟨dn, hdn, d6, dz⟩ : ∃ dn : Nat, (raw ns (nxt ns (nxt ns r)) % w) * (if 1 < zones then 1 else 0) = (dn : Int) ∧ dn ≤ 6 ∧ (zones = 1 → dn = 0) := by
    by_cases c : 1 < zones
    · refine ⟨(raw ns (nxt ns (nxt ns r)) % w).toNat, ?_, ?_, ?_⟩
      · rw [if_pos c]; omega
      · omega
      · omega
    · refine ⟨0, ?_, by omega, fun _ => rfl⟩
      rw [if_neg c]
      simp
  have sm : smallI (if 1 < zones then 1 else 0) = true := by split <;> decide
  have rd : rng1 [.int ((raw ns (nxt ns (nxt ns r)) % w) * (if 1 < zones then 1 else 0))] = some (dN (List.range dn)) := r_nat (by rw [hdn]) (by omega)
  simp [m_lw_house, -v_for, taken_ev, hz, hw, w0]
  refine seq_inv (mu1 := [rowD ns (nxt ns (nxt ns (nxt ns r))), .lst []]) (ds := List.range dn) (f := fun n => D.int (n : Int)) (fun i rh mu => ∃ (doors : List Dor) (r' : Row), doors.length = i ∧ (∀ d ∈ doors, DorOk zones d) ∧ mu = [rowD ns r', .lst (doors.map dDor)] ∧ ∃ a b c d e, rh = [some (.cel 0), some (.int zones), some (.cel 1), a, b, c, d, e, none, none, none, none, none, none, none]) ?_ ⟨[], _, rfl, by simp, rfl, none, none, none, none, none, rfl⟩ ?_ (fun o => ∃ (h : Hou), HouOk h ∧ ∃ (r' : Row) (more : Mu), fin o = some (Rs.ok (dH h), rowD ns r' :: more)) ?_
  · simp [taken_ev, hw, w0, sm, rd]
  · rintro i a ha _ _ ⟨doors, r', dl, dok, rfl, x1, x2, x3, x4, x5, rfl⟩
    have hi : i < dn := by
      have := (List.getElem?_eq_some_iff.mp ha).1
      simpa using this
    have zz : 0 < zones - 1 := by omega
    have q2 := mod_lt (x := raw ns r') zz
    obtain ⟨one, ho⟩ : ∃ z, raw ns r' % (zones - 1) = z := ⟨_, rfl⟩
    rw [ho] at q2
    have zo : 0 < zones - 1 - one := by omega
    have q3 := mod_lt (x := raw ns (nxt ns r')) zo
    have q4 := mod_lt (x := raw ns (nxt ns (nxt ns r'))) (m := 8) (by omega)
    have g3 := pk_mem (l := [0, 0, raw ns (nxt ns (nxt ns r')) % 8]) (n := 3) (x := raw ns (nxt ns (nxt ns (nxt ns r')))) rfl (by omega)
    obtain ⟨ope, hope⟩ : ∃ z, pk [0, 0, raw ns (nxt ns (nxt ns r')) % 8] 3 (raw ns (nxt ns (nxt ns (nxt ns r')))) = z := ⟨_, rfl⟩
    rw [hope] at g3
    simp only [List.mem_cons, List.not_mem_nil, or_false] at g3
    have o8 : 0 < 8 - ope := by omega
    have t1 := fun r rest => taken_ev (ns := ns) (r := r) (rest := rest) zz
    have t2 := fun r rest => taken_ev (ns := ns) (r := r) (rest := rest) zo
    have t3 := fun r rest => taken_ev (ns := ns) (r := r) (rest := rest) o8
    have dl : doors.length < 100000 := by omega
    have g4 := pk_mem (l := [8, ope + 1 + raw ns (nxt ns (nxt ns (nxt ns (nxt ns r')))) % (8 - ope)]) (n := 2) (x := raw ns (nxt ns (nxt ns (nxt ns (nxt ns (nxt ns r')))))) rfl (by omega)
    have g5 := pk_mem (l := [1, 2, 2, 3, 4]) (n := 5) (x := raw ns (nxt ns (nxt ns (nxt ns (nxt ns (nxt ns (nxt ns r'))))))) rfl (by omega)
    obtain ⟨sh, hsh⟩ : ∃ z, pk [8, ope + 1 + raw ns (nxt ns (nxt ns (nxt ns (nxt ns r')))) % (8 - ope)] 2 (raw ns (nxt ns (nxt ns (nxt ns (nxt ns (nxt ns r')))))) = z := ⟨_, rfl⟩
    obtain ⟨wd, hwd⟩ : ∃ z, pk [1, 2, 2, 3, 4] 5 (raw ns (nxt ns (nxt ns (nxt ns (nxt ns (nxt ns (nxt ns r'))))))) = z := ⟨_, rfl⟩
    rw [hsh] at g4
    rw [hwd] at g5
    simp [taken_ev, t1, t2, t3, ho, hope, dl, hsh, hwd]
    have q5 := mod_lt (x := raw ns (nxt ns (nxt ns (nxt ns (nxt ns r'))))) o8
    simp only [List.mem_cons, List.not_mem_nil, or_false] at g4 g5
    refine ⟨_, _, ⟨rfl, rfl⟩, doors ++ [⟨one, _, wd, ope, sh⟩], by simp [*], ?_, ⟨_, by rw [List.map_append]; rfl⟩, _, _, _, _, _, rfl⟩
    intro d hd
    rw [List.mem_append, List.mem_singleton] at hd
    rcases hd with hd | rfl
    · exact dok d hd
    · constructor <;> simp only <;> omega
  · rintro _ _ ⟨doors, r', dl, dok, rfl, x1, x2, x3, x4, x5, rfl⟩
    rw [List.length_range] at dl
    obtain ⟨nms, nl, nok, nnd, ne⟩ := names_ev ns r'
    have n1 : ∀ mu, mRow m_lw_names [.cel 0] (rowD ns r' :: mu) = some (.ok (.lst (nms.map .str)), rowD ns (nxt ns (nxt ns r')) :: mu) := fun mu =>
      row_of rfl rfl (ne []) (by simpa using cfL_map (f := D.str) (fun _ => rfl) nms) rfl
    generalize nxt ns (nxt ns r') = r2 at *
    have q6 := mod_lt (x := raw ns r2) (m := 4) (by omega)
    obtain ⟨mn, hm⟩ : ∃ mn : Nat, 1 + raw ns r2 % 4 = (mn : Int) := ⟨(1 + raw ns r2 % 4).toNat, by omega⟩
    have m1 : 1 ≤ mn := by omega
    have m4 : mn ≤ 4 := by omega
    have hpeople := fun a b c d e => lc_inv (mu0 := [rowD ns (nxt ns r2), .dead]) (mu := [rowD ns (nxt ns r2), .dead]) (ds := List.range mn) (f := fun n => D.int (n : Int)) (g := dPer) (j := 3) (it := mRng1 (mCons (mVar 9) mNil)) (c := mYes) (m := mCall (mRow m_lw_person) (mCons (mVar 0) (mCons (mOp ixD (mVar 8) (mVar 3)) (mCons (mVar 1) (mNil))))) (rh := [some (.cel 0), some (.int zones), some (.lst (doors.map dDor)), a, b, c, d, e, some (.lst (nms.map .str)), some (.int mn), none, none, none, none, none])
      (fun i bs mu => bs.length = i ∧ (∀ p ∈ bs, PerOk zones p ∧ p.beg = 0) ∧ bs.map (·.name) = nms.take i ∧ ∃ r', mu = [rowD ns r', .dead]) (by simp [r_1 (show mn ≤ 1000000 by omega)]) (by simp; omega) ⟨rfl, by simp, rfl, _, rfl⟩ (by
        rintro i a ha bs _ ⟨bl, bok, bn, r3, rfl⟩
        have hi : i < mn := by
          have := (List.getElem?_eq_some_iff.mp ha).1
          simpa using this
        have ea : a = i := by
          rw [List.getElem?_range hi] at ha
          exact (Option.some.inj ha).symm
        subst ea
        have hin : a < nms.length := by omega
        obtain ⟨p, pok, pn, pb, r4, pe⟩ := person_ev ns r3 nms[a] (nok _ (List.getElem_mem hin)) zones z1 z4
        have pr := row_of (mu := [.dead]) rfl rfl pe (by simp) rfl
        refine ⟨true, _, rfl, fun _ => ⟨p, [rowD ns r4, .dead], ?_, ?_⟩, fun q => by cases q⟩
        · simp [wipeR, hin, pr]
        · refine ⟨by simp [bl], ?_, ?_, r4, rfl⟩
          · intro x hx
            rw [List.mem_append, List.mem_singleton] at hx
            rcases hx with hx | rfl
            · exact bok x hx
            · exact ⟨pok, pb⟩
          · rw [List.map_append, bn, List.take_add_one]
            congr 1
            simp [hin, pn])
    obtain ⟨ps, _, hp1, ⟨pl, pok, pn, r3, rfl⟩, _⟩ := hpeople x1 x2 x3 x4 x5
    rw [List.length_range] at pl
    obtain ⟨hv, e4, hv4, hv9⟩ : ∃ hv, atI [D.int 9, .int 6, .int 6, .int 4] ((mn : Int) - 1) = some (.int hv) ∧ 4 ≤ hv ∧ hv ≤ 9 := by
      have : mn = 1 ∨ mn = 2 ∨ mn = 3 ∨ mn = 4 := by omega
      rcases this with rfl | rfl | rfl | rfl
      · exact ⟨9, rfl, by omega, by omega⟩
      · exact ⟨6, rfl, by omega, by omega⟩
      · exact ⟨6, rfl, by omega, by omega⟩
      · exact ⟨4, rfl, by omega, by omega⟩
    have hv0 : 0 < hv - (if zones = 4 then 1 else 0) := by split <;> omega
    have t1 := fun r rest => taken_ev (ns := ns) (r := r) (rest := rest) hv0
    have q7 := mod_lt (x := raw ns r3) hv0
    have hv8 : hv - (if zones = 4 then 1 else 0) ≤ 9 := by split <;> omega
    obtain ⟨ho, hho⟩ : ∃ z, raw ns r3 % (hv - (if zones = 4 then 1 else 0)) = z := ⟨_, rfl⟩
    rw [hho] at q7
    let pre : Rho := [some (.cel 0), some (.int zones), some (.lst (doors.map dDor)), x1, x2, x3, x4, x5, some (.lst (nms.map .str)), some (.int mn), some (.lst (ps.map dPer))]
    obtain ⟨hrs, r4, hr0, hr8, hif⟩ : ∃ hrs r4, 0 ≤ hrs ∧ hrs ≤ 8 ∧ sIf (mAnd (mTest (mOp ltD (mCB (pureF lenD) (mCons (mVar 2) (mNil))) (mC (.int 3)))) (mTest (mOp eqD (mCall m_lw_taken (mCons (mVar 0) (mCons (mC (.int 4)) (mNil)))) (mC (.int 3))))) (sAsg (mOp addD (mC (.int 5)) (mCall m_lw_taken (mCons (mVar 0) (mCons (mC (.int 4)) (mNil))))) (tNm 11)) (sSkip) (pre ++ [some (.int ho), none, none, none]) [rowD ns (nxt ns r3), .dead] = some (.nx (pre ++ [some (.int hrs), none, none, none]), [rowD ns r4, .dead]) := by
      by_cases c1 : doors.length < 3
      · by_cases c2 : raw ns (nxt ns r3) % 4 = 3
        · have := mod_lt (x := raw ns (nxt ns (nxt ns r3))) (m := 4) (by omega)
          refine ⟨5 + raw ns (nxt ns (nxt ns r3)) % 4, nxt ns (nxt ns (nxt ns r3)), by omega, by omega, ?_⟩
          have c1' : (doors.length : Int) < 3 := by omega
          simp [pre, taken_ev, c1', c2]
        · refine ⟨ho, nxt ns (nxt ns r3), by omega, by omega, ?_⟩
          have c1' : (doors.length : Int) < 3 := by omega
          simp [pre, taken_ev, c1', c2]
      · refine ⟨ho, nxt ns r3, by omega, by omega, ?_⟩
        have c1' : ¬ (doors.length : Int) < 3 := by omega
        simp [pre, taken_ev, c1']
    let h0 : Hou := ⟨zones, hrs, doors, ps⟩
    obtain ⟨st, _, hs1, ⟨sl, sb, r5, rfl⟩, _⟩ := lc_inv (mu0 := [rowD ns r4, .dead]) (mu := [rowD ns r4, .dead]) (ds := ps) (f := dPer) (g := D.int) (j := 14) (it := mItems (mVar 10)) (c := mYes) (m := mCall m_lw_taken (mCons (mVar 0) (mCons (mVar 1) (mNil)))) (rh := pre ++ [some (.int hrs), some (dH h0), none, none])
      (fun i bs mu => bs.length = i ∧ (∀ z ∈ bs, 0 ≤ z ∧ z < zones) ∧ ∃ r', mu = [rowD ns r', .dead]) (by simp [pre]) (by omega) ⟨rfl, by simp, _, rfl⟩ (by
        rintro i a ha bs _ ⟨bl, bb, r5, rfl⟩
        have zz : 0 < zones := by omega
        have := mod_lt (x := raw ns r5) zz
        refine ⟨true, _, rfl, fun _ => ⟨raw ns r5 % zones, [rowD ns (nxt ns r5), .dead], ?_, by simp [bl], ?_, _, rfl⟩, fun q => by cases q⟩
        · simp [pre, wipeR, taken_ev zz]
        · intro z hz
          rw [List.mem_append, List.mem_singleton] at hz
          rcases hz with hz | rfl
          · exact bb z hz
          · exact this)
    have hl := lw_left_pv (h := h0) (st := st) (mu := [rowD ns (nxt ns r5), .dead]) (by show st.length ≤ ps.length; omega) (by omega)
    have hP : ∀ n (l : n < mn), h0.people[n]? = some (h0.P n) := fun n l => Hou.P_of (by show n < ps.length; omega)
    have hpeople2 : mLc [3] (mRng1 (mCons (mVar 9) (mNil))) (tNm 3) (mYes) (mOp addD (mOp addD (mSl (mOp ixD (mVar 10) (mVar 3)) (mNoP) (mPart (mC (.int 1)))) (mTup (mCons (mOp ixD (mVar 13) (mVar 3)) (mNil)))) (mSl (mOp ixD (mVar 10) (mVar 3)) (mPart (mC (.int 2))) (mNoP))) (pre ++ [some (.int hrs), some (dH h0), some (.tup (dI st)), none]) [rowD ns (nxt ns r5), .dead] = some (.ok (.lst (((List.range mn).map fun n => (h0.P n).from (S st n)).map dPer)), [rowD ns (nxt ns r5), .dead]) := by
      rw [lc_ev (ds := List.range mn) (f := fun n => D.int (n : Int)) (fun _ => true) (fun n => dPer ((h0.P n).from (S st n))) ?_ ?_ ?_ ?_]
      · rw [fil_true, List.map_map]
        rfl
      · simp [pre, r_1 (show mn ≤ 1000000 by omega)]
      · simp; omega
      · intro k hk
        simp
      · intro k hk _
        have hk := List.mem_range.mp hk
        have e1 : ps[k]? = some (h0.P k) := hP k hk
        have e2 : st[k]? = some (S st k) := S_of (by omega)
        have e3 : ∀ a b c d e f g : D, cutL [a, b, c, d, e, f, g] none (some 1) = [a] := fun _ _ _ _ _ _ _ => rfl
        have e5 : ∀ a b c d e f g : D, cutL [a, b, c, d, e, f, g] (some 2) none = [c, d, e, f, g] := fun _ _ _ _ _ _ _ => rfl
        simp [pre, wipeR, e1, e2, e3, e5, lim_ok, dPer, Per.from]
    obtain ⟨ps2, r6, hok, hif2⟩ : ∃ ps2 r6, HouOk ⟨zones, hrs, doors, ps2⟩ ∧ sIf (mAnd (mTest (mOp eqD (mCall m_lw_taken (mCons (mVar 0) (mCons (mC (.int 3)) (mNil)))) (mC (.int 0)))) (mTest (mOp isD (mCall (mPure m_lw_left) (mCons (mVar 12) (mCons (mVar 13) (mNil)))) (mC .non)))) (sAsg (mLc [3] (mRng1 (mCons (mVar 9) (mNil))) (tNm 3) (mYes) (mOp addD (mOp addD (mSl (mOp ixD (mVar 10) (mVar 3)) (mNoP) (mPart (mC (.int 1)))) (mTup (mCons (mOp ixD (mVar 13) (mVar 3)) (mNil)))) (mSl (mOp ixD (mVar 10) (mVar 3)) (mPart (mC (.int 2))) (mNoP)))) (tNm 10)) (sSkip) (pre ++ [some (.int hrs), some (dH h0), some (.tup (dI st)), none]) [rowD ns r5, .dead] = some (.nx ((pre ++ [some (.int hrs), some (dH h0), some (.tup (dI st)), none]).set 10 (some (.lst (ps2.map dPer)))), [rowD ns r6, .dead]) := by
      have base : ∀ qs : List Per, qs.length = mn → (∀ p ∈ qs, PerOk zones p) → qs.map (·.name) = ps.map (·.name) → (⟨zones, hrs, doors, qs⟩ : Hou).left (qs.map (·.beg)) = none → HouOk ⟨zones, hrs, doors, qs⟩ := fun qs ql qok qn qe =>
        { z1 := z1, z4 := z4, h0 := hr0, h8 := hr8, d6 := by show doors.length ≤ 6; omega, dor := dok, p1 := by show 1 ≤ qs.length; omega, p4 := by show qs.length ≤ 4; omega, per := qok,
          nms := by
            show (qs.map (·.name)).Nodup
            rw [qn, pn]
            exact (List.take_sublist _ _).nodup nnd
          left := qe }
      by_cases c1 : raw ns r5 % 3 = 0
      · cases c2 : h0.left st with
        | none =>
          refine ⟨(List.range mn).map fun n => (h0.P n).from (S st n), nxt ns r5, base _ (by simp) ?_ ?_ ?_, ?_⟩
          · intro p hp
            obtain ⟨n, hn, rfl⟩ := List.mem_map.mp hp
            have hn := List.mem_range.mp hn
            have k := (pok _ (List.mem_of_getElem? (hP n hn))).1
            have e2 : st[n]? = some (S st n) := S_of (by omega)
            have k2 := sb _ (List.mem_of_getElem? e2)
            exact { name := k.name, b0 := k2.1, bz := k2.2, g0 := k.g0, gz := k.gz, m0 := k.m0, m4 := k.m4, s0 := k.s0, s8 := k.s8, zs := k.zs, nd := k.nd, fu := k.fu, lu := k.lu }
          · apply List.ext_getElem?
            intro i
            rw [List.getElem?_map, List.getElem?_map, List.getElem?_map]
            by_cases hi : i < mn
            · rw [List.getElem?_range hi]
              have e1 : ps[i]? = some (h0.P i) := hP i hi
              rw [e1]
              rfl
            · rw [List.getElem?_eq_none (by simp; omega), List.getElem?_eq_none (by omega)]
              rfl
          · have e1 : ((List.range mn).map fun n => (h0.P n).from (S st n)).map (·.beg) = st := by
              apply List.ext_getElem?
              intro i
              rw [List.getElem?_map, List.getElem?_map]
              by_cases hi : i < mn
              · rw [List.getElem?_range hi, S_of (by omega)]
                rfl
              · rw [List.getElem?_eq_none (by simp; omega), List.getElem?_eq_none (by omega)]
                rfl
            rw [e1, ← c2]
            refine left_congr (fun n => ?_) st
            by_cases hn : n < mn
            · have e2 : (⟨zones, hrs, doors, (List.range mn).map fun n => (h0.P n).from (S st n)⟩ : Hou).P n = (h0.P n).from (S st n) := by
                show (((List.range mn).map fun n => (h0.P n).from (S st n))[n]?).getD _ = _
                rw [List.getElem?_map, List.getElem?_range hn]
                rfl
              rw [e2]
              exact ⟨rfl, rfl, rfl⟩
            · have e2 : (⟨zones, hrs, doors, (List.range mn).map fun n => (h0.P n).from (S st n)⟩ : Hou).P n = h0.P n := by
                show (((List.range mn).map fun n => (h0.P n).from (S st n))[n]?).getD _ = (ps[n]?).getD _
                rw [List.getElem?_eq_none (by simp; omega), List.getElem?_eq_none (by omega)]
              rw [e2]
              exact ⟨rfl, rfl, rfl⟩
          · simp only [pre, List.cons_append, List.nil_append] at hpeople2
            simp [pre, taken_ev, c1, hl, c2, dO, hpeople2]
        | some x =>
          refine ⟨ps, nxt ns r5, base ps pl (fun p hp => (pok p hp).1) rfl (left_zero fun n hn => ?_), ?_⟩
          · have := List.mem_map.mp (List.mem_of_getElem? (S_of (st := ps.map (·.beg)) hn))
            obtain ⟨p, hp, e⟩ := this
            rw [← e]
            exact (pok p hp).2
          · simp [pre, taken_ev, c1, hl, c2, dO]
      · refine ⟨ps, nxt ns r5, base ps pl (fun p hp => (pok p hp).1) rfl (left_zero fun n hn => ?_), ?_⟩
        · have := List.mem_map.mp (List.mem_of_getElem? (S_of (st := ps.map (·.beg)) hn))
          obtain ⟨p, hp, e⟩ := this
          rw [← e]
          exact (pok p hp).2
        · simp [pre, taken_ev, c1]
    have eh : D.tup [D.int zones, D.int hrs, D.lst (List.map dDor doors), D.lst (List.map dPer ps)] = dH h0 := rfl
    simp only [pre, List.cons_append, List.nil_append] at hif hif2 hs1
    simp [n1, taken_ev, hm, hp1, e4, t1, hho, -v_ifS, hif, eh, hs1, hif2]
    exact ⟨_, hok, rfl, _, rfl⟩
end Eb

/-! Eb: steps and states are drawn. -/
namespace Eb
open PySem L2
theorem pl_D (d : Dor) (n : Nat) : pl (n + 2) (dDor d) = true := rfl
theorem pl_name {x : Str} (k : NameOk x) (n : Nat) : pl (n + 1) (.str x) = true := by
  show (x.cps.all (· < 0x110000)) = true
  rw [Array.all_eq_true_iff_forall_mem]
  intro c hc
  have : c ∈ letters := k.az c (by simpa using hc)
  have h2 : ∀ c ∈ letters, c < 0x110000 := by decide +kernel
  exact decide_eq_true (h2 c this)
theorem pl_P {z : Int} {p : Per} (k : PerOk z p) (n : Nat) : pl (n + 3) (dPer p) = true := by
  show ([D.str p.name, .int p.beg, .int p.goal, .int p.most, .int p.since, .tup (dI p.free), .tup (dI p.led)].all (pl (n + 2))) = true
  have h1 := pl_name k.name (n + 1)
  have h2 : pl (n + 2) (.tup (dI p.free)) = true := pl_I n _
  have h3 : pl (n + 2) (.tup (dI p.led)) = true := pl_I n _
  simp only [List.all_cons, List.all_nil, h1, h2, h3, Bool.and_true]
  rfl
theorem pl_doors (l : List Dor) : pl 12 (.lst (l.map dDor)) = true := by
  show (l.map dDor).all (pl 11) = true
  rw [List.all_map, List.all_eq_true]
  exact fun d _ => pl_D d 9
theorem pl_people {h : Hou} (H : HouOk h) : pl 12 (.lst (h.people.map dPer)) = true := by
  show (h.people.map dPer).all (pl 11) = true
  rw [List.all_map, List.all_eq_true]
  exact fun d hd => pl_P (H.per d hd) 8
@[simp] theorem eq_doors {mu : Mu} {l : List Dor} : eqD mu (.lst (l.map dDor)) (.lst []) = some (.bl l.isEmpty) := by
  rw [o_eqP (pl_doors l) rfl, same_nil]
  simp
@[simp] theorem eq_grp {mu : Mu} {l : List Nat} : eqD mu (.tup (dN l)) (.tup []) = some (.bl l.isEmpty) := by
  rw [o_eqP (pl_tN l) rfl, same_nilT]
  simp
@[simp] theorem eq_nilL {mu : Mu} : eqD mu (.lst []) (.lst []) = some (.bl true) := by rw [o_eqP rfl rfl, same_refl]
@[simp] theorem eq_nilT {mu : Mu} : eqD mu (.tup []) (.tup []) = some (.bl true) := by rw [o_eqP rfl rfl, same_refl]
theorem drawn_ev (ns : List Int) (r : Row) {h : Hou} (H : HouOk h) : ∃ (s : Stp) (r' : Row), StpOk h s ∧ m_lw_drawn_01 [.cel 0, dH h] [rowD ns r] = some (.ok (dS s), [rowD ns r']) := by
  have p4 := H.p4
  have p1 := H.p1
  by_cases c1 : h.doors = []
  · exact ⟨.wait, r, trivial, by simp [m_lw_drawn_01, c1, dS]⟩
  · by_cases c2 : raw ns r % 12 = 11
    · exact ⟨.wait, nxt ns r, trivial, by simp [m_lw_drawn_01, c1, taken_ev, c2, dS]⟩
    · obtain ⟨g, _, hg, ⟨gb, gu, r1, rfl⟩, _⟩ := lc_inv (mu0 := [rowD ns (nxt ns r)]) (mu := [rowD ns (nxt ns r)]) (ds := List.range h.people.length) (f := fun n => D.int (n : Int)) (g := fun (n : Nat) => D.int (n : Int)) (j := 4) (it := mRng1 (mCons (mVar 2) mNil)) (c := mTest (mOp eqD (mCall m_lw_taken (mCons (mVar 0) (mCons (mC (.int 2)) (mNil)))) (mC (.int 1)))) (m := mVar 4) (rh := [some (.cel 0), some (dH h), some (.int h.people.length), none, none])
        (fun i bs mu => (∀ n ∈ bs, n < i) ∧ bs.Pairwise (· < ·) ∧ ∃ r', mu = [rowD ns r']) (by simp [r_1 (show h.people.length ≤ 1000000 by omega)]) (by simp; omega) ⟨by simp, List.Pairwise.nil, _, rfl⟩ (by
          rintro i a ha bs _ ⟨bb, bu, r5, rfl⟩
          have hi : i < h.people.length := by
            have := (List.getElem?_eq_some_iff.mp ha).1
            simpa using this
          have ea : a = i := by
            rw [List.getElem?_range hi] at ha
            exact (Option.some.inj ha).symm
          subst ea
          refine ⟨decide (raw ns r5 % 2 = 1), [rowD ns (nxt ns r5)], by simp [wipeR, taken_ev], fun _ => ⟨a, [rowD ns (nxt ns r5)], by simp [wipeR], ?_, ?_, _, rfl⟩, fun _ => ⟨fun n hn => by have := bb n hn; omega, bu, _, rfl⟩⟩
          · intro n hn
            rw [List.mem_append, List.mem_singleton] at hn
            rcases hn with hn | rfl
            · have := bb n hn; omega
            · omega
          · rw [List.pairwise_append]
            refine ⟨bu, List.pairwise_singleton _ _, fun x hx y hy => ?_⟩
            rw [List.mem_singleton] at hy
            rw [hy]
            exact bb x hx)
      rw [List.length_range] at gb
      have dl : 0 < (h.doors.length : Int) := by
        have : 0 < h.doors.length := List.length_pos_iff.mpr c1
        omega
      have dq := fun r => mod_lt (x := raw ns r) dl
      have t1 := fun r rest => taken_ev (ns := ns) (r := r) (rest := rest) dl
      by_cases c3 : g = []
      · have pl : 0 < (h.people.length : Int) := by omega
        have pq := mod_lt (x := raw ns r1) pl
        have t2 := fun r rest => taken_ev (ns := ns) (r := r) (rest := rest) pl
        obtain ⟨n, hn⟩ : ∃ n : Nat, raw ns r1 % h.people.length = (n : Int) := ⟨(raw ns r1 % h.people.length).toNat, by omega⟩
        have dq := dq (nxt ns r1)
        obtain ⟨m, hm⟩ : ∃ n : Nat, raw ns (nxt ns r1) % h.doors.length = (n : Int) := ⟨(raw ns (nxt ns r1) % h.doors.length).toNat, by omega⟩
        subst c3
        simp at hg
        refine ⟨.go m [n], nxt ns (nxt ns r1), ⟨by omega, fun k hk => by rw [List.mem_singleton] at hk; omega, by simp, List.pairwise_singleton _ _⟩, ?_⟩
        simp [m_lw_drawn_01, c1, taken_ev, c2, hg, t1, t2, hn, hm, dS]
      · have dq := dq r1
        obtain ⟨m, hm⟩ : ∃ n : Nat, raw ns r1 % h.doors.length = (n : Int) := ⟨(raw ns r1 % h.doors.length).toNat, by omega⟩
        refine ⟨.go m g, nxt ns r1, ⟨by omega, gb, c3, gu⟩, ?_⟩
        simp [m_lw_drawn_01, c1, taken_ev, c2, hg, t1, hm, dS, c3]

theorem bar_pl {h : Hou} {hour : Int} {st : List Int} {s : Stp} : pl 12 (dB (h.bar hour st s)) = true := by
  have key : ∀ w n, PyData.strOk w = true → pl 12 (dB (some (w, n))) = true := fun w n hw => by
    show ([D.str w, .int n].all (pl 11)) = true
    simp only [List.all_cons, List.all_nil, Bool.and_true]
    have : pl 11 (.str w) = true := hw
    rw [this]
    rfl
  cases s with
  | wait => rfl
  | go num g =>
    show pl 12 (dB (h.barGo hour st num g (S st (g.headD 0)))) = true
    unfold Hou.barGo Hou.barA Hou.barW Hou.barG
    repeat' split
    all_goals first | exact key _ _ (by decide +kernel) | rfl
theorem rep_mul {mu : Mu} {z : Int} {n : Nat} (h1 : 1 ≤ n) (h4 : n ≤ 4) : mul1D mu (.tup [.int z]) (.int (n : Int)) = some (.tup (dI (List.replicate n z))) := by
  have : n = 1 ∨ n = 2 ∨ n = 3 ∨ n = 4 := by omega
  rcases this with rfl | rfl | rfl | rfl <;> rfl
theorem neSame {mu : Mu} {d : D} (h : pl 12 d = true) : neD mu d d = some (.bl false) := by
  rw [o_neP h h, same_refl]
  rfl
theorem pl_O {o : Option Nat} : pl 12 (dO o) = true := by cases o <;> rfl
/-- a drawn state -/
structure StOk (h : Hou) (st : List Int) : Prop where
  len : st.length = h.people.length
  lo : ∀ z ∈ st, 0 ≤ z
  hi : ∀ z ∈ st, z < h.zones
end Eb

/-! Eb: the steps that nothing bars. -/
namespace Eb
open PySem L2
/-- the groups of people lo .. lo + k - 1, the empty one first -/
def subsA : Nat → Nat → List (List Nat)
  | lo, 0 => [[]]
  | lo, k + 1 => [] :: ((subsA (lo + 1) k).map (lo :: ·) ++ (subsA (lo + 1) k).tail)
def grps (n : Nat) : List (List Nat) := (subsA 0 n).tail
def dG (g : List Nat) : D := .tup (dN g)
theorem groups_ev {mu : Mu} {n : Nat} (h1 : 1 ≤ n) (h4 : n ≤ 4) : m_groups_of [.int (n : Int)] mu = some (.ok (.lst ((grps n).map dG)), mu) := by
  have : n = 1 ∨ n = 2 ∨ n = 3 ∨ n = 4 := by omega
  rcases this with rfl | rfl | rfl | rfl <;> rfl
theorem grps_len {n : Nat} (h4 : n ≤ 4) : (grps n).length ≤ 15 := by
  have : n = 0 ∨ n = 1 ∨ n = 2 ∨ n = 3 ∨ n = 4 := by omega
  rcases this with rfl | rfl | rfl | rfl | rfl <;> decide
theorem grps_ok {n : Nat} (h4 : n ≤ 4) : ∀ g ∈ grps n, (∀ k ∈ g, k < n) ∧ g ≠ [] ∧ g.Pairwise (· < ·) := by
  have : n = 0 ∨ n = 1 ∨ n = 2 ∨ n = 3 ∨ n = 4 := by omega
  rcases this with rfl | rfl | rfl | rfl | rfl <;> decide
@[simp] theorem nonB_dB {o : Option (Str × Nat)} : nonB (dB o) = o.isNone := by rcases o with _ | ⟨w, n⟩ <;> rfl
def Hou.stepsD (h : Hou) (hour : Int) (st : List Int) (gs : List (List Nat)) (d : Nat) : List Stp := (gs.filter fun g => (h.bar hour st (.go d g)).isNone).map (.go d)
def Hou.stepsN (h : Hou) (hour : Int) (st : List Int) (gs : List (List Nat)) (n : Nat) : List Stp := .wait :: (List.range n).flatMap (h.stepsD hour st gs)
def Hou.steps (h : Hou) (hour : Int) (st : List Int) : List Stp := h.stepsN hour st (grps h.people.length) h.doors.length
theorem stepsD_len {h : Hou} {hour : Int} {st : List Int} {gs : List (List Nat)} {d : Nat} : (h.stepsD hour st gs d).length ≤ gs.length := by
  unfold Hou.stepsD
  rw [List.length_map]
  exact List.length_filter_le _ _
theorem stepsN_succ {h : Hou} {hour : Int} {st : List Int} {gs : List (List Nat)} {n : Nat} : h.stepsN hour st gs (n + 1) = h.stepsN hour st gs n ++ h.stepsD hour st gs n := by
  unfold Hou.stepsN
  rw [List.range_succ, List.flatMap_append]
  simp
theorem stepsN_len {h : Hou} {hour : Int} {st : List Int} {gs : List (List Nat)} : ∀ n, (h.stepsN hour st gs n).length ≤ 1 + n * gs.length
  | 0 => by simp [Hou.stepsN]
  | n + 1 => by
    rw [stepsN_succ, List.length_append, Nat.succ_mul]
    have := stepsN_len (h := h) (hour := hour) (st := st) (gs := gs) n
    have := stepsD_len (h := h) (hour := hour) (st := st) (gs := gs) (d := n)
    omega
theorem fil_take {α : Type} {l : List α} {p : α → Bool} {j : Nat} {a : α} (h : l[j]? = some a) : (l.take (j + 1)).filter p = (l.take j).filter p ++ (if p a = true then [a] else []) := by
  rw [List.take_add_one, h, List.filter_append]
  congr 1
  by_cases c : p a = true <;> simp [c]
theorem steps_at_ev {h : Hou} (N : HouN h) (h6 : h.doors.length ≤ 6) (h1 : 1 ≤ h.people.length) {st : List Int} (hs : st.length = h.people.length) (hour : Int) (mu : Mu) :
    m_steps_at_02 [.ins 0 (hF h), .int hour, .tup (dI st)] mu = some (.ok (.cel mu.length), mu ++ [.lst ((h.steps hour st).map dS)]) := by
  have p4 := N.few
  have e1 := groups_ev (mu := mu ++ [.lst [dS .wait]]) (n := st.length) (by omega) (by omega)
  have gl := grps_len (n := st.length) (by omega)
  have gk := grps_ok (n := st.length) (by omega)
  have o1 : ∀ mu : Mu, insOf mu (.ins 0 (hF h)) = some (0, hF h) := fun _ => rfl
  have ew : Cell.lst [D.tup [.str "wait"]] = .lst [dS .wait] := rfl
  have f2 : (hF h)[2]? = some (.lst (h.doors.map dDor)) := rfl
  simp [m_steps_at_02, ew, e1, f2, -v_for]
  let pre : Rho := [some (.ins 0 (hF h)), some (.int hour), some (.tup (dI st)), some (.cel mu.length), some (.lst ((grps st.length).map dG))]
  refine seq_inv (mu1 := mu ++ [.lst [dS .wait]]) (ds := List.range h.doors.length) (f := fun n => D.int (n : Int)) (fun i rh mu' => mu' = mu ++ [.lst ((h.stepsN hour st (grps st.length) i).map dS)] ∧ ∃ a b, rh = pre ++ [a, b]) ?_ ⟨rfl, none, none, rfl⟩ ?_ (fun o => fin o = some (Rs.ok (.cel mu.length), mu ++ [.lst ((h.steps hour st).map dS)])) ?_
  · simp [pre, f2, r_1 (show h.doors.length ≤ 1000000 by omega)]
  · rintro i d hd _ _ ⟨rfl, a, b, rfl⟩
    have hi : i < h.doors.length := by
      have := (List.getElem?_eq_some_iff.mp hd).1
      simpa using this
    have ed : d = i := by
      rw [List.getElem?_range hi] at hd
      exact (Option.some.inj hd).symm
    subst ed
    have l1 := stepsN_len (h := h) (hour := hour) (st := st) (gs := grps st.length) d
    have l2 : d * (grps st.length).length ≤ 6 * 15 := Nat.mul_le_mul (by omega) gl
    obtain ⟨r', mu', q1, q2, q3⟩ := for_inv (mu := mu ++ [.lst ((h.stepsN hour st (grps st.length) d).map dS)]) (mu1 := mu ++ [.lst ((h.stepsN hour st (grps st.length) d).map dS)]) (ds := grps st.length) (f := dG) (j := 6) (it := mItems (mVar 4)) (rh := pre ++ [some (.int d), b])
      (b := sIf (mTest (mOp isD (mCall m_bar_of_01 (mCons (mVar 0) (mCons (mVar 1) (mCons (mVar 2) (mCons (mTup (mCons (mC (.str "go")) (mCons (mVar 5) (mCons (mVar 6) (mNil))))) (mNil)))))) (mC .non))) (sDrop (mBM isCell appF (mVar 3) (mCons (mTup (mCons (mC (.str "go")) (mCons (mVar 5) (mCons (mVar 6) (mNil))))) (mNil)))) (sSkip))
      (fun j rh mu' => mu' = mu ++ [.lst ((h.stepsN hour st (grps st.length) d ++ h.stepsD hour st ((grps st.length).take j) d).map dS)] ∧ ∃ b, rh = pre ++ [some (.int d), b]) (by simp [pre]) ⟨by simp [Hou.stepsD], b, rfl⟩ (by
        rintro j g hg _ _ ⟨rfl, b, rfl⟩
        have gm := gk g (List.mem_of_getElem? hg)
        have ok : StpOk h (.go d g) := ⟨hi, fun k hk => by have := gm.1 k hk; omega, gm.2.1, gm.2.2⟩
        have e2 := bar_ev N hs (o1 (mu ++ [.lst ((h.stepsN hour st (grps st.length) d ++ h.stepsD hour st ((grps st.length).take j) d).map dS)])) hour ok
        have eg : D.tup [.str "go", .int (d : Int), dG g] = dS (.go d g) := rfl
        have l3 := stepsD_len (h := h) (hour := hour) (st := st) (gs := (grps st.length).take j) (d := d)
        rw [List.length_take] at l3
        have l4 : (h.stepsN hour st (grps st.length) d).length + (h.stepsD hour st ((grps st.length).take j) d).length < 100000 := by omega
        have e3 : h.stepsD hour st ((grps st.length).take (j + 1)) d = h.stepsD hour st ((grps st.length).take j) d ++ (if (h.bar hour st (.go d g)).isNone = true then [.go d g] else []) := by
          unfold Hou.stepsD
          rw [fil_take hg, List.map_append]
          congr 1
          split <;> rfl
        simp at e2
        cases hb : h.bar hour st (.go d g) with
        | none =>
          rw [hb] at e2 e3
          rw [e3]
          simp [pre, eg, e2, l4]
          exact ⟨_, _, ⟨rfl, rfl⟩, rfl, _, rfl⟩
        | some w =>
          rw [hb] at e2 e3
          rw [e3]
          simp [pre, eg, e2]
          exact ⟨_, _, ⟨rfl, rfl⟩, rfl, _, rfl⟩)
    obtain ⟨b2, q4⟩ := q3
    refine ⟨r', mu', ?_, ?_, some (.int d), b2, q4⟩
    · simp [pre] at q1 ⊢
      exact q1
    · rw [q2, stepsN_succ, List.take_length]
  · rintro _ _ ⟨rfl, a, b, rfl⟩
    unfold Hou.steps
    rw [List.length_range, ← hs]
    simp [pre]

theorem subs_len : ∀ lo k : Nat, (subsA lo k).length ≤ 2 ^ k
  | _, 0 => Nat.le_refl _
  | lo, k + 1 => by
    have := subs_len (lo + 1) k
    have p : 0 < 2 ^ k := Nat.pos_of_ne_zero (by simp)
    unfold subsA
    simp
    omega
theorem subs_mem : ∀ (lo k : Nat) (g : List Nat), g ∈ subsA lo k → g.length ≤ k
  | _, 0, g, h => by
    have : g = [] := by simpa [subsA] using h
    simp [this]
  | lo, k + 1, g, h => by
    unfold subsA at h
    rcases List.mem_cons.mp h with rfl | h
    · simp
    · rcases List.mem_append.mp h with h | h
      · obtain ⟨x, hx, rfl⟩ := List.mem_map.mp h
        have := subs_mem (lo + 1) k x hx
        simp
        omega
      · have := subs_mem (lo + 1) k g (List.mem_of_mem_tail h)
        omega
theorem cut_tail {α : Type} {l : List α} : cutL l (some 1) none = l.tail := by
  unfold cutL
  rw [show (some (1 : Int)) = some ((1 : Nat) : Int) from rfl, HT.sIx_nat, HT.sIx_none]
  cases l with
  | nil => rfl
  | cons a l =>
    rw [show min 1 (a :: l).length = 1 by simp]
    simp
theorem lw_steps_ev {h : Hou} (N : HouN h) (h6 : h.doors.length ≤ 6) (h1 : 1 ≤ h.people.length) {st : List Int} (hs : st.length = h.people.length) (hour : Int) (mu : Mu) :
    mPure m_lw_steps_01 [dH h, .int hour, .tup (dI st)] mu = some (.ok (.lst ((h.steps hour st).map dS)), mu) := by
  have key : ∃ mu', m_lw_steps_01 [dH h, .int hour, .tup (dI st)] [] = some (.ok (.lst ((h.steps hour st).map dS)), mu') := by
    have p4 := N.few
    have gl := grps_len (n := st.length) (by omega)
    have gk := grps_ok (n := st.length) (by omega)
    simp [m_lw_steps_01, -v_for]
    refine seq_inv (mu1 := []) (ds := List.range st.length) (f := fun i => D.int ((st.length : Int) - 1 - (i : Int))) (fun i rh mu' => i ≤ st.length ∧ mu' = [] ∧ ∃ a, rh = [some (dH h), some (.int hour), some (.tup (dI st)), some (.lst ((subsA (st.length - i) i).map dG)), a, none, none, none]) ?_ ⟨Nat.zero_le _, rfl, none, rfl⟩ ?_ (fun o => ∃ mu', fin o = some (Rs.ok (.lst ((h.steps hour st).map dS)), mu')) ?_
    · have e : rng3 [.int ((st.length : Int) - 1), .int (-1), .int (-1)] = some ((List.range st.length).map fun (i : Nat) => D.int ((st.length : Int) - 1 - (i : Int))) := by
        show (if -1000000 ≤ (st.length : Int) - 1 ∧ (st.length : Int) - 1 ≤ 1000000 ∧ -1000000 ≤ (-1 : Int) ∧ (-1 : Int) ≤ 1000000 then some ((List.range ((st.length : Int) - 1 - (-1)).toNat).map fun (i : Nat) => D.int ((st.length : Int) - 1 - (i : Int))) else none) = _
        rw [if_pos (by omega), show ((st.length : Int) - 1 - (-1)).toNat = st.length by omega]
      simp [e]
    · rintro i a ha _ _ ⟨hi, rfl, x, rfl⟩
      have hi2 : i < st.length := by
        have := (List.getElem?_eq_some_iff.mp ha).1
        simpa using this
      have ea : a = i := by
        rw [List.getElem?_range hi2] at ha
        exact (Option.some.inj ha).symm
      subst ea
      have e0 : (st.length : Int) - 1 - (a : Int) = ((st.length - (a + 1) : Nat) : Int) := by omega
      have e1 : st.length - a = st.length - (a + 1) + 1 := by omega
      rw [e0, e1]
      generalize st.length - (a + 1) = lo at *
      have sl := subs_len (lo + 1) a
      have s16 : 2 ^ a ≤ 2 ^ 4 := Nat.pow_le_pow_right (by omega) (by omega)
      have h2 : mLc [7] (mItems (mVar 3)) (tNm 7) (mYes) (mOp addD (mTup (mCons (mVar 4) (mNil))) (mVar 7)) [some (dH h), some (.int hour), some (.tup (dI st)), some (.lst ((subsA (lo + 1) a).map dG)), some (.int lo), none, none, none] [] = some (.ok (.lst (((subsA (lo + 1) a).map (lo :: ·)).map dG)), []) := by
        rw [lc_ev (ds := subsA (lo + 1) a) (f := dG) (fun _ => true) (fun g => dG (lo :: g)) ?_ ?_ ?_ ?_]
        · rw [fil_true, List.map_map]
          rfl
        · simp
        · omega
        · intro g hg
          simp
        · intro g hg _
          have := subs_mem _ _ g hg
          have l : 1 + g.length ≤ 100000 := by omega
          simp [wipeR, dG, lim_ok, l]
      have l1 : 1 + (subsA (lo + 1) a).length ≤ 100000 := by omega
      have l2 : 1 + (subsA (lo + 1) a).length + (subsA (lo + 1) a).tail.length ≤ 100000 := by rw [List.length_tail]; omega
      have en : [D.tup []] = [dG []] := rfl
      have lt : ((subsA (lo + 1) a).map dG).tail = (subsA (lo + 1) a).tail.map dG := by rw [List.map_tail]
      have l3 : (subsA (lo + 1) a).length + 1 + ((subsA (lo + 1) a).length - 1) ≤ 100000 := by omega
      have es : (subsA lo (a + 1)).map dG = D.tup [] :: (List.map (dG ∘ fun x => lo :: x) (subsA (lo + 1) a) ++ (List.map dG (subsA (lo + 1) a)).tail) := by
        rw [lt]
        show dG [] :: (((subsA (lo + 1) a).map (lo :: ·)) ++ (subsA (lo + 1) a).tail).map dG = _
        rw [List.map_append, List.map_map]
        rfl
      rw [es]
      simp at h2
      simp [h2, cut_tail, lim_ok, l1, l3]
      exact ⟨_, _, ⟨rfl, rfl⟩, by omega, rfl, _, rfl⟩
    · rintro _ _ ⟨_, rfl, x, rfl⟩
      rw [List.length_range, Nat.sub_self]
      have eg : ((subsA 0 st.length).map dG).tail = (grps st.length).map dG := by rw [← List.map_tail]; rfl
      have ew : Cell.lst [D.tup [.str "wait"]] = .lst [dS .wait] := rfl
      let pre : Rho := [some (dH h), some (.int hour), some (.tup (dI st)), some (.lst ((subsA 0 st.length).map dG)), x, some (.cel 0)]
      simp [ew, -v_for]
      refine seq_inv (mu1 := [.lst [dS .wait]]) (ds := List.range h.doors.length) (f := fun n => D.int (n : Int)) (fun i rh mu' => mu' = [.lst ((h.stepsN hour st (grps st.length) i).map dS)] ∧ ∃ a b, rh = pre ++ [a, b]) ?_ ⟨rfl, none, none, rfl⟩ ?_ (fun o => ∃ mu', fin o = some (Rs.ok (.lst ((h.steps hour st).map dS)), mu')) ?_
      · simp [r_1 (show h.doors.length ≤ 1000000 by omega)]
      · rintro i d hd _ _ ⟨rfl, a, b, rfl⟩
        have hi : i < h.doors.length := by
          have := (List.getElem?_eq_some_iff.mp hd).1
          simpa using this
        have ed : d = i := by
          rw [List.getElem?_range hi] at hd
          exact (Option.some.inj hd).symm
        subst ed
        have l1 := stepsN_len (h := h) (hour := hour) (st := st) (gs := grps st.length) d
        have l2 : d * (grps st.length).length ≤ 6 * 15 := Nat.mul_le_mul (by omega) gl
        obtain ⟨r', mu', q1, q2, q3⟩ := for_inv (mu := [.lst ((h.stepsN hour st (grps st.length) d).map dS)]) (mu1 := [.lst ((h.stepsN hour st (grps st.length) d).map dS)]) (ds := grps st.length) (f := dG) (j := 7) (it := mItems (mSl (mVar 3) (mPart (mC (.int 1))) (mNoP))) (rh := pre ++ [some (.int d), b])
          (b := sIf (mTest (mOp isD (mCall (mPure m_lw_bar_01) (mCons (mVar 0) (mCons (mVar 1) (mCons (mVar 2) (mCons (mTup (mCons (mC (.str "go")) (mCons (mVar 6) (mCons (mVar 7) (mNil))))) (mNil)))))) (mC .non))) (sDrop (mBM isCell appF (mVar 5) (mCons (mTup (mCons (mC (.str "go")) (mCons (mVar 6) (mCons (mVar 7) (mNil))))) (mNil)))) (sSkip))
          (fun j rh mu' => mu' = [.lst ((h.stepsN hour st (grps st.length) d ++ h.stepsD hour st ((grps st.length).take j) d).map dS)] ∧ ∃ b, rh = pre ++ [some (.int d), b]) (by simp [pre, cut_tail, eg]) ⟨by simp [Hou.stepsD], b, rfl⟩ (by
            rintro j g hg _ _ ⟨rfl, b, rfl⟩
            have gm := gk g (List.mem_of_getElem? hg)
            have ok : StpOk h (.go d g) := ⟨hi, fun k hk => by have := gm.1 k hk; omega, gm.2.1, gm.2.2⟩
            have e2 : ∀ mu : Mu, mPure m_lw_bar_01 [dH h, .int hour, .tup (dI st), dS (.go d g)] mu = _ := fun mu => pure_of (by simp) (lw_bar_ev N hs hour ok) (by simp)
            have eg : D.tup [.str "go", .int (d : Int), dG g] = dS (.go d g) := rfl
            have l3 := stepsD_len (h := h) (hour := hour) (st := st) (gs := (grps st.length).take j) (d := d)
            rw [List.length_take] at l3
            have l4 : (h.stepsN hour st (grps st.length) d).length + (h.stepsD hour st ((grps st.length).take j) d).length < 100000 := by omega
            have e3 : h.stepsD hour st ((grps st.length).take (j + 1)) d = h.stepsD hour st ((grps st.length).take j) d ++ (if (h.bar hour st (.go d g)).isNone = true then [.go d g] else []) := by
              unfold Hou.stepsD
              rw [fil_take hg, List.map_append]
              congr 1
              split <;> rfl
            cases hb : h.bar hour st (.go d g) with
            | none =>
              rw [hb] at e2 e3
              rw [e3]
              simp [pre, eg, e2, l4]
              exact ⟨_, _, ⟨rfl, rfl⟩, rfl, _, rfl⟩
            | some w =>
              rw [hb] at e2 e3
              rw [e3]
              simp [pre, eg, e2]
              exact ⟨_, _, ⟨rfl, rfl⟩, rfl, _, rfl⟩)
        obtain ⟨b2, q4⟩ := q3
        refine ⟨r', mu', ?_, ?_, some (.int d), b2, q4⟩
        · simp [pre] at q1 ⊢
          exact q1
        · rw [q2, stepsN_succ, List.take_length]
      · rintro _ _ ⟨rfl, a, b, rfl⟩
        unfold Hou.steps
        rw [List.length_range, ← hs]
        simp [pre]
  obtain ⟨mu', e⟩ := key
  exact pure_of (by simp) e (by simpa using cfL_map (f := dS) (fun _ => cf_dS) _)
end Eb

/-! Eb: nobody is left, counted zone by zone. -/
namespace Eb
open PySem L2
/-! ### in, of data -/
theorem any_pl {mu : Mu} {x : D} {p : PyData} (hx : pl 12 x = true) (hp : pyD mu 12 x = some p) : ∀ {ds : List D} {ps : List PyData}, ds.all (pl 12) = true → allM (pyD mu 12) ds = some ps → (ps.any fun e => PyData.eqv e p) = ds.any fun d => same d x
  | [], ps, _, h => by cases (Option.some.inj h); rfl
  | d :: ds, ps, hd, h => by
    rw [List.all_cons, Bool.and_eq_true] at hd
    have h : (match pyD mu 12 d with | some p => (allM (pyD mu 12) ds).map (p :: ·) | none => none) = some ps := h
    obtain ⟨q, h1, _, _⟩ := pyD_pl (mu := mu) 12 d hd.1
    rw [h1] at h
    cases ha : allM (pyD mu 12) ds with
    | none => rw [ha] at h; cases h
    | some qs =>
      rw [ha] at h
      cases (Option.some.inj h)
      rw [List.any_cons, List.any_cons, any_pl hx hp hd.2 ha]
      congr 1
      have := eqv_pl 12 d x q p hd.1 hx h1 hp
      unfold same
      cases he : PyData.eqv q p with
      | true => simp [this.mp he]
      | false =>
        have : ¬ d = x := fun z => by rw [this.mpr z] at he; cases he
        simp [this]
theorem inXB_pl {mu : Mu} {x : D} {ds : List D} (hx : pl 12 x = true) (hd : ds.all (pl 12) = true) : inXB mu x (.lst ds) = some (ds.any fun d => same d x) := by
  obtain ⟨p, h1, h2, h3⟩ := pyD_pl (mu := mu) 12 x hx
  obtain ⟨ps, g1, g2, g3⟩ := allM_pl (mu := mu) (pyD_pl 12) ds hd
  show (match pyD mu 12 x, (some ds : Option (List D)) with
    | some p, some ds => match allM (pyD mu 12) ds with
      | some ps => if SeqAt.shaped p && ps.all SeqAt.shaped then some (ps.any fun e => PyData.eqv e p) else none
      | none => none
    | _, _ => none) = _
  rw [h1]
  simp only [g1]
  have s1 : SeqAt.shaped p = true := by simp [SeqAt.shaped, h2]; omega
  have s2 : ∀ qs : List PyData, PyData.canLayAll0 qs = true → PyData.depthAll qs ≤ 12 → qs.all SeqAt.shaped = true := by
    intro qs
    induction qs with
    | nil => intros; rfl
    | cons q qs ih =>
      intro c d
      simp [PyData.canLayAll0] at c
      simp [PyData.depthAll] at d
      rw [List.all_cons, ih c.2 (by omega), Bool.and_true]
      simp [SeqAt.shaped, c.1]
      omega
  rw [s1, s2 ps g2 g3, Bool.and_self, if_pos rfl, any_pl hx h1 hd g1]
theorem dPer_inj {p q : Per} (h : dPer p = dPer q) : p = q := by
  obtain ⟨a, b, c, d, e, f, g⟩ := p
  obtain ⟨a', b', c', d', e', f', g'⟩ := q
  have inj : ∀ {l m : List Int}, dI l = dI m → l = m := by
    intro l m h
    have := congrArg intsOf h
    rw [intsOf_I, intsOf_I] at this
    exact Option.some.inj this
  simp only [dPer, D.tup.injEq, List.cons.injEq, D.str.injEq, D.int.injEq, and_true] at h
  obtain ⟨h1, h2, h3, h4, h5, h6, h7⟩ := h
  rw [h1, h2, h3, h4, h5, inj h6, inj h7]
theorem HouOk.P_inj {h : Hou} (H : HouOk h) {n m : Nat} (hn : n < h.people.length) (hm : m < h.people.length) (e : h.P n = h.P m) : n = m := by
  have nd := H.nms
  by_cases c : n = m
  · exact c
  · exfalso
    have key : ∀ i j, i < j → j < h.people.length → h.P i ≠ h.P j := fun i j hij hj e => by
      have q := (List.pairwise_iff_getElem.mp nd) i j (by simp; omega) (by simpa using hj) hij
      rw [List.getElem_map, List.getElem_map] at q
      apply q
      have h1 := Hou.P_of (h := h) (n := i) (by omega)
      have h2 := Hou.P_of (h := h) (n := j) hj
      rw [List.getElem?_eq_getElem (by omega)] at h1
      rw [List.getElem?_eq_getElem hj] at h2
      rw [Option.some.inj h1, Option.some.inj h2, e]
    rcases Nat.lt_or_gt_of_ne c with c | c
    · exact key n m c hm e
    · exact key m n c hn e.symm
theorem notin_per {mu : Mu} {h : Hou} (H : HouOk h) {n : Nat} (hn : n < h.people.length) {l : List Nat} (hl : ∀ k ∈ l, k < h.people.length) : notinX mu (dPer (h.P n)) (.lst (l.map fun k => dPer (h.P k))) = some (.bl (!decide (n ∈ l))) := by
  unfold notinX
  rw [inXB_pl (pl_P (H.per _ (Hou.P_mem hn)) 9) (by
    rw [List.all_map, List.all_eq_true]
    exact fun k hk => pl_P (H.per _ (Hou.P_mem (hl k hk))) 9)]
  rw [Option.map_some]
  congr 3
  rw [List.any_map]
  rw [Bool.eq_iff_iff, List.any_eq_true, decide_eq_true_iff]
  constructor
  · rintro ⟨k, hk, e⟩
    have e : dPer (h.P k) = dPer (h.P n) := by simpa [same] using e
    rw [← H.P_inj (hl k hk) hn (dPer_inj e)]
    exact hk
  · intro hk
    exact ⟨n, hk, by simp [same]⟩

/-! ### right, zone by zone -/
def Hou.rightZ (h : Hou) (st : List Int) (z : Int) : Bool := ((h.bound (here st z) [z]).filter fun n => !decide (z ∈ (h.P n).led)).isEmpty && !decide (h.hands (here st z) [z] < ((h.bound (here st z) [z]).length : Int))
def zs (h : Hou) : List Nat := List.range h.zones.toNat
def Hou.right (h : Hou) (st : List Int) : Bool := (zs h).all fun (z : Nat) => h.rightZ st z
theorem here_mem {st : List Int} {z : Int} {n : Nat} : n ∈ here st z ↔ n < st.length ∧ S st n = z := by
  unfold here
  rw [List.mem_filter, List.mem_range, decide_eq_true_iff]
theorem bound_mem {h : Hou} {ps : List Nat} {z : Int} {n : Nat} : n ∈ h.bound ps [z] ↔ n ∈ ps ∧ (h.P n).isFree z = false := by
  rw [bound1, List.mem_filter]
  simp
theorem right_iff {h : Hou} (N : HouN h) {st : List Int} (hz : ∀ n < st.length, 0 ≤ S st n ∧ S st n < h.zones) : h.right st = (h.left st).isNone := by
  rw [Bool.eq_iff_iff, Option.isNone_iff_eq_none]
  unfold Hou.left
  rw [List.find?_eq_none]
  unfold Hou.right
  rw [List.all_eq_true]
  constructor
  · intro hr n hn
    have hn := List.mem_range.mp hn
    have q := hz n hn
    have hs := hr (S st n).toNat (List.mem_range.mpr (by omega))
    have e : (((S st n).toNat : Nat) : Int) = S st n := by omega
    rw [e] at hs
    unfold Hou.rightZ at hs
    rw [Bool.and_eq_true, List.isEmpty_iff, List.filter_eq_nil_iff] at hs
    unfold Hou.leftP Per.may
    cases hf : (h.P n).isFree (S st n) with
    | true => simp
    | false =>
      have hb : n ∈ h.bound (here st (S st n)) [S st n] := bound_mem.mpr ⟨here_mem.mpr ⟨hn, rfl⟩, hf⟩
      have h1 := hs.1 n hb
      have h2 := hs.2
      simp at h1 h2
      simp [h1, h2]
  · intro hl z hz2
    have hz2 := List.mem_range.mp hz2
    unfold Hou.rightZ
    rw [Bool.and_eq_true, List.isEmpty_iff, List.filter_eq_nil_iff]
    have key : ∀ n ∈ h.bound (here st (z : Int)) [(z : Int)], (z : Int) ∈ (h.P n).led ∧ ¬ h.hands (here st (z : Int)) [(z : Int)] < ((h.bound (here st (z : Int)) [(z : Int)]).length : Int) := by
      intro n hn
      obtain ⟨h1, h2⟩ := bound_mem.mp hn
      obtain ⟨h3, h4⟩ := here_mem.mp h1
      have := hl n (List.mem_range.mpr h3)
      unfold Hou.leftP Per.may at this
      rw [h4, h2] at this
      simpa using this
    refine ⟨fun n hn => by simp [(key n hn).1], ?_⟩
    cases hb : h.bound (here st (z : Int)) [(z : Int)] with
    | nil =>
      have := hands_nn N (here st (z : Int)) [(z : Int)]
      simp
      omega
    | cons n l =>
      have := (key n (by rw [hb]; exact List.mem_cons_self)).2
      rw [hb] at this
      simpa using this
theorem isFree_pos {p : Per} {z : Nat} : p.isFree (z : Int) = !(decide (0 < (z : Int)) && !decide ((z : Int) ∈ p.free)) := by
  unfold Per.isFree
  by_cases c : z = 0
  · subst c; simp
  · have h1 : ¬ (z : Int) = 0 := by omega
    have h2 : 0 < z := by omega
    simp [c, h2]
theorem is_right_ev {h : Hou} (H : HouOk h) {st : List Int} (hs : st.length = h.people.length) {mu : Mu} : m_lw_is_right [dH h, .tup (dI st)] mu = some (.ok (.bl (h.right st)), mu) := by
  have p4 := H.p4
  have z1 := H.z1
  have z4 := H.z4
  obtain ⟨nz, hnz⟩ : ∃ nz : Nat, h.zones = (nz : Int) := ⟨h.zones.toNat, by omega⟩
  have ez : zs h = List.range nz := by unfold zs; rw [hnz]; rfl
  have hL : st.length ≤ 1000000 := by omega
  simp [m_lw_is_right, -v_for]
  rw [seq_find (ds := List.range nz) (f := fun n => D.int (n : Int)) (fun rh => ∃ a b c, rh = [some (dH h), some (.tup (dI st)), a, b, c, none, none]) (fun z => !h.rightZ st (z : Int)) (fun _ => .bl false) (out := some (.rt (.bl true), mu)) ?_ ?_ ?_ ?_]
  · unfold Hou.right
    rw [ez]
    cases hf : (List.range nz).find? (fun (z : Nat) => !h.rightZ st (z : Int)) with
    | none =>
      have := List.find?_eq_none.mp hf
      have : ((List.range nz).all fun (z : Nat) => h.rightZ st (z : Int)) = true := by
        rw [List.all_eq_true]
        intro z hz
        simpa using this z hz
      rw [this]
      rfl
    | some z =>
      have h1 := List.find?_some hf
      have h2 := List.mem_of_find?_eq_some hf
      have : ((List.range nz).all fun (z : Nat) => h.rightZ st (z : Int)) = false := by
        rw [Bool.eq_false_iff]
        intro q
        rw [List.all_eq_true] at q
        rw [q z h2] at h1
        cases h1
      rw [this]
      rfl
  · simp [hnz, r_1 (show nz ≤ 1000000 by omega)]
  · exact ⟨none, none, none, rfl⟩
  · rintro z hz _ ⟨a, b, c, rfl⟩
    have hp : ∀ k ∈ here st (z : Int), k < h.people.length := fun k hk => Nat.lt_of_lt_of_le (here_lt hk) (Nat.le_of_eq hs)
    have hb : ∀ k ∈ h.bound (here st (z : Int)) [(z : Int)], k < h.people.length := fun k hk => hp k (bound_mem.mp hk).1
    have hlen := here_len st (z : Int)
    have blen : (h.bound (here st (z : Int)) [(z : Int)]).length ≤ (here st (z : Int)).length := List.length_filter_le _ _
    have e1 : ∀ b c d, mLc [5] (mRng1 (mCons (mCB (pureF lenD) (mCons (mVar 1) (mNil))) (mNil))) (tNm 5) (mTest (mOp eqD (mOp ixD (mVar 1) (mVar 5)) (mVar 2))) (mOp ixD (mOp ixD (mVar 0) (mC (.int 3))) (mVar 5)) [some (dH h), some (.tup (dI st)), some (.int z), b, c, none, d] mu = some (.ok (.lst ((here st (z : Int)).map fun k => dPer (h.P k))), mu) := by
      intros
      rw [lc_ev (ds := List.range st.length) (f := fun n => D.int (n : Int)) (fun k => decide (S st k = (z : Int))) (fun k => dPer (h.P k)) ?_ ?_ ?_ ?_]
      · rfl
      · simp [hL]
      · simp; omega
      · intro k hk
        simp [wipeR, S_of (List.mem_range.mp hk)]
      · intro k hk _
        have := List.mem_range.mp hk
        simp [wipeR, Hou.P_of (show k < h.people.length by omega)]
    have e2 : ∀ c d, mLc [6] (mItems (mVar 3)) (tNm 6) (mAnd (mTest (mOp gtD (mVar 2) (mC (.int 0)))) (mTest (mOp notinD (mVar 2) (mOp ixD (mVar 6) (mC (.int 5)))))) (mVar 6) [some (dH h), some (.tup (dI st)), some (.int z), some (.lst ((here st (z : Int)).map fun k => dPer (h.P k))), c, d, none] mu = some (.ok (.lst ((h.bound (here st (z : Int)) [(z : Int)]).map fun k => dPer (h.P k))), mu) := by
      intros
      rw [lc_ev (ds := here st (z : Int)) (f := fun k => dPer (h.P k)) (fun k => decide (0 < (z : Int)) && !decide ((z : Int) ∈ (h.P k).free)) (fun k => dPer (h.P k)) ?_ (by omega) ?_ ?_]
      · rw [bound1]
        congr 5
        apply List.filter_congr
        intro k hk
        rw [isFree_pos, Bool.not_not]
      · simp
      · intro k hk
        simp [wipeR]
      · intro k hk _
        simp [wipeR]
    have e3 : ∀ c d, mLc [6] (mItems (mVar 4)) (tNm 6) (mTest (mOp notinD (mVar 2) (mOp ixD (mVar 6) (mC (.int 6))))) (mVar 6) [some (dH h), some (.tup (dI st)), some (.int z), c, some (.lst ((h.bound (here st (z : Int)) [(z : Int)]).map fun k => dPer (h.P k))), d, none] mu = some (.ok (.lst (((h.bound (here st (z : Int)) [(z : Int)]).filter fun n => !decide ((z : Int) ∈ (h.P n).led)).map fun k => dPer (h.P k))), mu) := by
      intros
      rw [lc_ev (ds := h.bound (here st (z : Int)) [(z : Int)]) (f := fun k => dPer (h.P k)) (fun n => !decide ((z : Int) ∈ (h.P n).led)) (fun k => dPer (h.P k)) ?_ (by omega) ?_ ?_]
      · simp
      · intro k hk
        simp [wipeR]
      · intro k hk _
        simp [wipeR]
    have e4 : ∀ d, mLc [6] (mItems (mVar 3)) (tNm 6) (mTest (mOp notinX (mVar 6) (mVar 4))) (mOp ixD (mVar 6) (mC (.int 3))) [some (dH h), some (.tup (dI st)), some (.int z), some (.lst ((here st (z : Int)).map fun k => dPer (h.P k))), some (.lst ((h.bound (here st (z : Int)) [(z : Int)]).map fun k => dPer (h.P k))), d, none] mu = some (.ok (.lst (((here st (z : Int)).filter fun n => !decide (n ∈ h.bound (here st (z : Int)) [(z : Int)])).map fun k => .int (h.P k).most)), mu) := by
      intros
      rw [lc_ev (ds := here st (z : Int)) (f := fun k => dPer (h.P k)) (fun n => !decide (n ∈ h.bound (here st (z : Int)) [(z : Int)])) (fun k => .int (h.P k).most) ?_ (by omega) ?_ ?_]
      · simp
      · intro k hk
        simp [wipeR, notin_per H (hp k hk) hb]
      · intro k hk _
        simp [wipeR]
    have hq : (((here st (z : Int)).filter fun n => !decide (n ∈ h.bound (here st (z : Int)) [(z : Int)])).map fun k => (h.P k).most).sum = h.hands (here st (z : Int)) [(z : Int)] := rfl
    have e5 : ∀ l : List Nat, (∀ k ∈ l, k < h.people.length) → neD mu (.lst (l.map fun k => dPer (h.P k))) (.lst []) = some (.bl (!l.isEmpty)) := fun l hl => by
      rw [o_neP (by
        show (l.map fun k => dPer (h.P k)).all (pl 11) = true
        rw [List.all_map, List.all_eq_true]
        exact fun k hk => pl_P (H.per _ (Hou.P_mem (hl k hk))) 8) rfl, same_nil]
      simp
    have e6 := e5 ((h.bound (here st (z : Int)) [(z : Int)]).filter fun n => !decide ((z : Int) ∈ (h.P n).led)) fun k hk => hb k (List.mem_filter.mp hk).1
    have hr : h.rightZ st (z : Int) = true ↔ (∀ a ∈ h.bound (here st (z : Int)) [(z : Int)], (z : Int) ∈ (h.P a).led) ∧ ¬ h.hands (here st (z : Int)) [(z : Int)] < ((h.bound (here st (z : Int)) [(z : Int)]).length : Int) := by
      unfold Hou.rightZ
      rw [Bool.and_eq_true, List.isEmpty_iff, List.filter_eq_nil_iff]
      simp
    simp [e1, e2, e3, e4, e6, hq]
    by_cases q : h.rightZ st (z : Int) = true
    · have k := hr.mp q
      refine ⟨fun h => absurd (q.symm.trans h) (by simp), fun _ => ?_⟩
      rw [if_neg (by rintro ⟨x, hx, hy⟩; exact hy (k.1 x hx)), if_neg k.2]
      exact ⟨_, rfl, _, _, _, rfl⟩
    · refine ⟨fun _ ha => ?_, fun h => absurd h q⟩
      exact Classical.byContradiction fun hc => q (hr.mpr ⟨ha, hc⟩)
  · rintro _ _ ⟨a, b, c, rfl⟩
    simp
end Eb

/-! Eb: a step that nothing bars. -/
namespace Eb
open PySem L2
def Hou.thOf (h : Hou) (st : List Int) (num : Nat) (g : List Nat) : Int := (h.Dr num).one + (h.Dr num).oth - S st (g.headD 0)
def Hou.next (h : Hou) (st : List Int) : Stp → List Int
  | .wait => st
  | .go num g => mv st g (h.thOf st num g)
structure Unb (h : Hou) (st : List Int) (num : Nat) (g : List Nat) : Prop where
  same : ∀ n ∈ g, S st n = S st (g.headD 0)
  at_ : S st (g.headD 0) = (h.Dr num).one ∨ S st (g.headD 0) = (h.Dr num).oth
  wide : (g.length : Int) ≤ (h.Dr num).wide
  led : ((h.bound g [S st (g.headD 0), h.thOf st num g]).length : Int) ≤ h.hands g [S st (g.headD 0), h.thOf st num g]
  left : h.left (mv st g (h.thOf st num g)) = none
theorem unb_of {h : Hou} {hour : Int} {st : List Int} {num : Nat} {g : List Nat} (ne : g ≠ []) (e : h.bar hour st (.go num g) = none) : Unb h st num g := by
  have e : h.barGo hour st num g (S st (g.headD 0)) = none := e
  have hm : g.headD 0 ∈ g := by
    cases g with
    | nil => exact absurd rfl ne
    | cons a l => exact List.mem_cons_self
  unfold Hou.barGo at e
  split at e
  · split at e
    · cases e
    · unfold Hou.barA at e
      split at e
      · cases e
      · rename_i ha
        have ha := List.find?_eq_none.mp ha
        unfold Hou.barW at e
        split at e
        · cases e
        · rename_i hw
          rw [Hou.barG_eq] at e
          split at e
          · cases e
          · unfold Hou.barH at e
            split at e
            · cases e
            · rename_i hh
              split at e
              · cases e
              · rename_i hl
                have key : ∀ n ∈ g, S st n = S st (g.headD 0) ∧ (S st (g.headD 0) = (h.Dr num).one ∨ S st (g.headD 0) = (h.Dr num).oth) := by
                  intro n hn
                  have := ha n hn
                  unfold Hou.away at this
                  simp only [Bool.or_eq_true, Bool.not_eq_true', not_or, Bool.not_eq_false, decide_eq_false_iff_not, Decidable.not_not, Bool.or_eq_false_iff] at this
                  refine ⟨this.1, ?_⟩
                  have h2 := this.2
                  by_cases c : S st (g.headD 0) = (h.Dr num).one
                  · exact .inl c
                  · refine .inr ?_
                    simpa [c, -List.headD_eq_head?_getD] using h2
                exact ⟨fun n hn => (key n hn).1, (key _ hm).2, by omega, by show ((h.bound g [S st (g.headD 0), _]).length : Int) ≤ h.hands g [S st (g.headD 0), _]; exact Int.not_lt.mp hh, hl⟩
  · cases e
def ledF (bad : Nat → Bool) (most : Nat → Int) (s : List Nat × Int) (p : Nat) : List Nat × Int := if bad p = true then (s.1 ++ [p], s.2) else (s.1, s.2 + most p)
theorem led_fold (bad : Nat → Bool) (most : Nat → Int) : ∀ (g b : List Nat) (x : Int), g.foldl (ledF bad most) (b, x) = (b ++ g.filter bad, x + ((g.filter fun n => !bad n).map most).sum)
  | [], b, x => by simp
  | p :: g, b, x => by
    rw [List.foldl_cons]
    unfold ledF
    cases c : bad p with
    | true =>
      rw [if_pos rfl, show (fun (s : List Nat × Int) p => if bad p = true then (s.1 ++ [p], s.2) else (s.1, s.2 + most p)) = ledF bad most from rfl, led_fold bad most g]
      simp [c]
    | false =>
      rw [if_neg Bool.false_ne_true, show (fun (s : List Nat × Int) p => if bad p = true then (s.1 ++ [p], s.2) else (s.1, s.2 + most p)) = ledF bad most from rfl, led_fold bad most g]
      simp [c]
      omega
theorem bad_free {p : Per} {z : Int} (hz : 0 ≤ z) : (decide (0 < z) && !decide (z ∈ p.free)) = !p.isFree z := by
  obtain ⟨n, rfl⟩ : ∃ n : Nat, z = (n : Int) := ⟨z.toNat, by omega⟩
  rw [isFree_pos, Bool.not_not]
theorem led_ev {h : Hou} (H : HouOk h) {st : List Int} (hs : st.length = h.people.length) (h0 : ∀ n < st.length, 0 ≤ S st n) {hour : Int} {s : Stp} (ok : StpOk h s) (e : h.bar hour st s = none) (mu : Mu) :
    mPure m_lw_are_led [dH h, .tup (dI st), .tup (dI (h.next st s)), dS s] mu = some (.ok (.bl true), mu) := by
  have p4 := H.p4
  have key : ∃ mu', m_lw_are_led [dH h, .tup (dI st), .tup (dI (h.next st s)), dS s] [] = some (.ok (.bl true), mu') := by
    cases s with
    | wait =>
      have : eqD [] (.tup (dI st)) (.tup (dI st)) = some (.bl true) := by rw [o_eqP (pl_tI st) (pl_tI st), same_refl]
      simp [m_lw_are_led, Hou.next, this]
    | go num g =>
      obtain ⟨hn, G⟩ := ok
      have U := unb_of G.ne e
      have gl : g.length ≤ 60 := by have := up_len G.up G.lt; omega
      have gs : ∀ n ∈ g, n < st.length := fun n hk => by rw [hs]; exact G.lt n hk
      have hd : g.headD 0 ∈ g := by
        cases g with
        | nil => exact absurd rfl G.ne
        | cons a l => exact List.mem_cons_self
      have DK := H.dor _ (List.mem_of_getElem? (Hou.Dr_of hn))
      have z0 := h0 _ (gs _ hd)
      have d1 := DK.o0
      have d2 := DK.oo
      have th0 : 0 ≤ h.thOf st num g := by
        unfold Hou.thOf
        rcases U.at_ with c | c <;> omega
      obtain ⟨u1, u2, u3, u4, u5⟩ := U
      have eS : ∀ u rh, tTp 3 u (dS (.go num g)) rh = u [.str "go", .int num, .tup (dN g)] rh := fun _ _ => rfl
      show ∃ mu', m_lw_are_led [dH h, .tup (dI st), .tup (dI (mv st g (h.thOf st num g))), dS (.go num g)] [] = _
      generalize h.thOf st num g = th at *
      generalize S st (g.headD 0) = z at *
      have ml : (mv st g th).length = st.length := mv_len
      have mg : ∀ n ∈ g, (mv st g th)[n]? = some th := fun n hn => by
        unfold mv
        rw [List.getElem?_map, List.getElem?_range (gs n hn)]
        simp [hn]
      have mo : ∀ n, n < st.length → n ∉ g → (mv st g th)[n]? = some (S st n) := fun n hn hg => by
        unfold mv
        rw [List.getElem?_map, List.getElem?_range hn]
        simp [hg]
      let bad : Nat → Bool := fun n => !(h.P n).isFree z || !(h.P n).isFree th
      have eb : g.filter bad = h.bound g [z, th] := bound2.symm
      have eh : ((g.filter fun n => !bad n).map fun n => (h.P n).most).sum = h.hands g [z, th] := by
        unfold Hou.hands
        congr 2
        apply List.filter_congr
        intro n hn
        have : n ∈ h.bound g [z, th] ↔ bad n = true := by rw [← eb, List.mem_filter]; simp [hn]
        cases c : bad n <;> simp [this, c]
      simp [m_lw_are_led, -v_for]
      refine seq_foldP (mu1 := [.lst []]) (ds := g) (f := fun n => D.int (n : Int)) (ledF bad fun n => (h.P n).most) (fun s rh mu => mu = [.lst (dN s.1)] ∧ ∃ a b, rh = [some (dH h), some (.tup (dI st)), some (.tup (dI (mv st g th))), some (dS (.go num g)), some (.cel 0), some (.int s.2), a, b, none, none, none]) ([], 0) ?_ ⟨rfl, none, none, rfl⟩ ?_ (fun o => ∃ mu', fin o = some (Rs.ok (.bl true), mu')) ?_
      · simp
      · rintro pre p post ep _ _ ⟨rfl, a, b, rfl⟩
        have hp : p ∈ g := by rw [ep]; simp
        have e1 : st[p]? = some z := by rw [S_of (gs p hp), u1 p hp]
        have e2 := mg p hp
        rw [led_fold]
        have pl : (pre.filter bad).length ≤ 60 := by
          have h1 : (pre.filter bad).length ≤ pre.length := List.length_filter_le _ _
          have h2 : pre.length ≤ g.length := by rw [ep]; simp
          omega
        have h1 : ∀ c d, mLc [9] (mItems (mLst (mCons (mOp ixD (mVar 1) (mVar 6)) (mCons (mOp ixD (mVar 2) (mVar 6)) (mNil))))) (tNm 9) (mTest (mOp gtD (mVar 9) (mC (.int 0)))) (mVar 9) [some (dH h), some (.tup (dI st)), some (.tup (dI (mv st g th))), some (dS (.go num g)), some (.cel 0), c, some (.int p), d, none, none, none] [.lst (dN (pre.filter bad))] = some (.ok (.lst (([z, th].filter fun x => decide (0 < x)).map D.int)), [.lst (dN (pre.filter bad))]) := by
          intros
          rw [lc_ev (ds := [z, th]) (f := D.int) (fun x => decide (0 < x)) D.int ?_ (by simp) ?_ ?_]
          · simp [e1, e2]
          · intro x hx
            simp [wipeR]
          · intro x hx _
            simp [wipeR]
        have h2 : ∀ c, mLc [9] (mItems (mVar 7)) (tNm 9) (mTest (mOp notinD (mVar 9) (mOp ixD (mOp ixD (mOp ixD (mVar 0) (mC (.int 3))) (mVar 6)) (mC (.int 5))))) (mVar 9) [some (dH h), some (.tup (dI st)), some (.tup (dI (mv st g th))), some (dS (.go num g)), some (.cel 0), c, some (.int p), some (.lst (([z, th].filter fun x => decide (0 < x)).map D.int)), none, none, none] [.lst (dN (pre.filter bad))] = some (.ok (.lst (dI (([z, th].filter fun x => decide (0 < x)).filter fun x => !decide (x ∈ (h.P p).free)))), [.lst (dN (pre.filter bad))]) := by
          intros
          rw [lc_ev (ds := [z, th].filter fun x => decide (0 < x)) (f := D.int) (fun x => !decide (x ∈ (h.P p).free)) D.int ?_ (Nat.le_trans (List.length_filter_le _ _) (by simp)) ?_ ?_]
          · simp
          · intro x hx
            simp [wipeR, Hou.P_of (G.lt p hp)]
          · intro x hx _
            simp [wipeR]
        have hb : (!(([z, th].filter fun x => decide (0 < x)).filter fun x => !decide (x ∈ (h.P p).free)).isEmpty) = bad p := by
          show _ = (!(h.P p).isFree z || !(h.P p).isFree th)
          rw [← bad_free z0, ← bad_free th0, List.filter_filter]
          by_cases c1 : 0 < z <;> by_cases c2 : 0 < th <;> by_cases c3 : z ∈ (h.P p).free <;> by_cases c4 : th ∈ (h.P p).free <;> simp [List.filter, c1, c2, c3, c4]
        have h3 : neD [.lst (dN (pre.filter bad))] (.lst (dI (([z, th].filter fun x => decide (0 < x)).filter fun x => !decide (x ∈ (h.P p).free)))) (.lst []) = some (.bl (bad p)) := by rw [o_neNilI, hb]
        generalize ([z, th].filter fun x => decide (0 < x)).filter (fun x => !decide (x ∈ (h.P p).free)) = zl at *
        generalize ([z, th].filter fun x => decide (0 < x)).map D.int = zm at *
        cases c : bad p with
        | true =>
          rw [c] at h3
          have : (pre.filter bad).length < 100000 := by omega
          simp [h1, h2, h3, ledF, c, this]
          exact ⟨_, _, ⟨rfl, rfl⟩, rfl, _, _, rfl⟩
        | false =>
          rw [c] at h3
          simp [h1, h2, h3, ledF, c, Hou.P_of (G.lt p hp)]
          exact ⟨_, _, ⟨rfl, rfl⟩, rfl, _, _, rfl⟩
      · rintro _ _ ⟨rfl, a, b, rfl⟩
        rw [led_fold]
        simp [eb, eh]
        have h1 : mLc [10] (mRng1 (mCons (mCB (pureF lenD) (mCons (mVar 1) (mNil))) (mNil))) (tNm 10) (mAnd (mTest (mOp notinD (mVar 10) (mOp ixD (mVar 3) (mC (.int 2))))) (mTest (mOp neD (mOp ixD (mVar 1) (mVar 10)) (mOp ixD (mVar 2) (mVar 10))))) (mVar 10) [some (dH h), some (.tup (dI st)), some (.tup (dI (mv st g th))), some (dS (.go num g)), some (.lst (dN (h.bound g [z, th]))), some (.int (h.hands g [z, th])), a, b, none, none, none] [.dead] = some (.ok (.lst []), [.dead]) := by
          rw [lc_ev (ds := List.range st.length) (f := fun n => D.int (n : Int)) (fun _ => false) (fun n => .int (n : Int)) ?_ (by simp; omega) ?_ ?_]
          · simp
          · simp [r_1 (show st.length ≤ 1000000 by omega)]
          · intro k hk
            have hk := List.mem_range.mp hk
            by_cases c : k ∈ g
            · simp [wipeR, c]
            · simp [wipeR, c, S_of hk, mo k hk c]
          · intro k hk q
            cases q
        have e9 : eqD [.dead] (.lst []) (.lst []) = some (.bl true) := by rw [o_eqP rfl rfl, same_refl]
        simp [h1, u4, u3, e9, Hou.Dr_of hn, dDor]
  obtain ⟨mu', e⟩ := key
  exact pure_of (by simp) e rfl
end Eb

/-! Eb: walks of steps that nothing bars. -/
namespace Eb
open PySem L2
abbrev dT (st : List Int) : D := .tup (dI st)
structure Stat (h : Hou) (st : List Int) : Prop where
  len : st.length = h.people.length
  rng : ∀ n < st.length, 0 ≤ S st n ∧ S st n < h.zones
theorem th_cases {h : Hou} {st : List Int} {num : Nat} {g : List Nat} (U : Unb h st num g) : (if S st (g.headD 0) = (h.Dr num).one then (h.Dr num).oth else (h.Dr num).one) = h.thOf st num g ∧ (h.thOf st num g = (h.Dr num).one ∨ h.thOf st num g = (h.Dr num).oth) := by
  unfold Hou.thOf
  rcases U.at_ with c | c
  · rw [if_pos c]
    omega
  · by_cases c4 : S st (g.headD 0) = (h.Dr num).one
    · rw [if_pos c4]; omega
    · rw [if_neg c4]; omega
theorem S_mv {st : List Int} {g : List Nat} {z : Int} {n : Nat} (hn : n < st.length) : S (mv st g z) n = if n ∈ g then z else S st n := by
  show ((mv st g z)[n]?).getD 0 = _
  unfold mv
  rw [List.getElem?_map, List.getElem?_range hn]
  rfl
theorem Stat.next {h : Hou} (H : HouOk h) {st : List Int} (k : Stat h st) {hour : Int} {s : Stp} (ok : StpOk h s) (e : h.bar hour st s = none) : Stat h (h.next st s) := by
  cases s with
  | wait => exact k
  | go num g =>
    have U := unb_of ok.2.ne e
    have DK := H.dor _ (List.mem_of_getElem? (Hou.Dr_of ok.1))
    have t := (th_cases U).2
    have d1 := DK.o0
    have d2 := DK.oo
    have d3 := DK.oz
    refine ⟨by show (mv st g _).length = _; rw [mv_len]; exact k.len, fun n hn => ?_⟩
    have hn : n < st.length := by
      have : (mv st g (h.thOf st num g)).length = st.length := mv_len
      exact this ▸ hn
    show 0 ≤ S (mv st g (h.thOf st num g)) n ∧ S (mv st g (h.thOf st num g)) n < h.zones
    rw [S_mv hn]
    split
    · omega
    · exact k.rng n hn
theorem left_next {h : Hou} {st : List Int} {hour : Int} {s : Stp} (ok : StpOk h s) (e : h.bar hour st s = none) (l : h.left st = none) : h.left (h.next st s) = none := by
  cases s with
  | wait => exact l
  | go num g => exact (unb_of ok.2.ne e).left
theorem moved_evT {mu : Mu} {st : List Int} {g : List Nat} {z : Int} (hl : st.length ≤ 1000) : m_moved [.tup (dI st), .tup (dN g), .int z] mu = some (.ok (.tup (dI (mv st g z))), mu) := by
  have hL : st.length ≤ 1000000 := by omega
  simp [m_moved]
  rw [lc_ev (ds := List.range st.length) (f := fun n => D.int (n : Int)) (fun k => true) (fun n => .int (if n ∈ g then z else S st n)) ?_ ?_ ?_ ?_]
  · simp [mv, Function.comp_def]
  · simp [hL]
  · simp; omega
  · intro k hk
    simp
  · intro k hk _
    simp [wipeR, S_of (List.mem_range.mp hk)]
    by_cases hg : k ∈ g <;> simp [hg]
theorem next_ev {h : Hou} (p4 : h.people.length ≤ 4) {st : List Int} (k : Stat h st) {s : Stp} (ok : StpOk h s) (mu : Mu) : m_behind [.ins 0 (hF h), dT st, dS s] mu = some (.ok (dT (h.next st s)), mu) := by
  have kl := k.len
  cases s with
  | wait => simp [m_behind, Hou.next]
  | go num g =>
    obtain ⟨hn, G⟩ := ok
    have hd : g.headD 0 ∈ g := by
      cases g with
      | nil => exact absurd rfl G.ne
      | cons a l => exact List.mem_cons_self
    have e0 : g[0]? = some (g.headD 0) := by
      cases g with
      | nil => exact absurd rfl G.ne
      | cons a l => rfl
    have e1 : st[g.headD 0]? = some (S st (g.headD 0)) := S_of (by rw [kl]; exact G.lt _ hd)
    have f2 : (hF h)[2]? = some (.lst (h.doors.map dDor)) := rfl
    have ec : slD mu (dDor (h.Dr num)) none (some 2) = some (.tup [.int (h.Dr num).one, .int (h.Dr num).oth]) := rfl
    have e3 := moved_evT (mu := mu) (st := st) (g := g) (z := (h.Dr num).one + (h.Dr num).oth - S st (g.headD 0)) (by omega)
    show m_behind [.ins 0 (hF h), dT st, dS (.go num g)] mu = some (.ok (dT (mv st g ((h.Dr num).one + (h.Dr num).oth - S st (g.headD 0)))), mu)
    simp [m_behind, f2, Hou.Dr_of hn, ec, e0, e1, e3, -List.headD_eq_head?_getD]
theorem lw_next_ev {h : Hou} {st : List Int} (k : Stat h st) {hour : Int} {s : Stp} (ok : StpOk h s) (e : h.bar hour st s = none) (mu : Mu) : mPure m_lw_behind [dH h, dT st, dS s] mu = some (.ok (dT (h.next st s)), mu) := by
  cases s with
  | wait => exact pure_of (by simp) behind_wait (by simp [Hou.next])
  | go num g =>
    have U := unb_of ok.2.ne e
    have := behind_pv (mu := mu) (h := h) (st := st) ok.1 (fun n hn => by rw [k.len]; exact ok.2.lt n hn) U.same
    rw [(th_cases U).1] at this
    exact this
/-! ### walks -/
def Hou.endOf (h : Hou) (st : List Int) (ss : List Stp) : List Int := ss.foldl h.next st
def Hou.stsOf (h : Hou) (st : List Int) : List Stp → List (List Int)
  | [] => [st]
  | s :: ss => st :: h.stsOf (h.next st s) ss
def Hou.okW (h : Hou) (hour : Int) (st : List Int) : List Stp → Prop
  | [] => True
  | s :: ss => StpOk h s ∧ h.bar hour st s = none ∧ h.okW (hour + 1) (h.next st s) ss
theorem stsOf_snoc {h : Hou} {s : Stp} : ∀ (ss : List Stp) (st : List Int), h.stsOf st (ss ++ [s]) = h.stsOf st ss ++ [h.next (h.endOf st ss) s]
  | [], st => rfl
  | a :: ss, st => by
    show st :: h.stsOf (h.next st a) (ss ++ [s]) = st :: (h.stsOf (h.next st a) ss ++ [_])
    rw [stsOf_snoc ss]
    rfl
theorem okW_snoc {h : Hou} {s : Stp} : ∀ (ss : List Stp) (hour : Int) (st : List Int), h.okW hour st ss → StpOk h s → h.bar (hour + ss.length) (h.endOf st ss) s = none → h.okW hour st (ss ++ [s])
  | [], hour, st, _, k, e => ⟨k, by simpa [Hou.endOf] using e, trivial⟩
  | a :: ss, hour, st, w, k, e => ⟨w.1, w.2.1, okW_snoc ss (hour + 1) (h.next st a) w.2.2 k (by
      have : hour + 1 + (ss.length : Int) = hour + ((a :: ss).length : Int) := by simp; omega
      rw [this]
      exact e)⟩
theorem stsOf_last {h : Hou} : ∀ (ss : List Stp) (st : List Int), (h.stsOf st ss).getLast? = some (h.endOf st ss)
  | [], st => rfl
  | a :: ss, st => by
    have := stsOf_last (h := h) ss (h.next st a)
    show (st :: h.stsOf (h.next st a) ss).getLast? = some (h.endOf (h.next st a) ss)
    cases hq : h.stsOf (h.next st a) ss with
    | nil => rw [hq] at this; cases this
    | cons b l =>
      rw [hq] at this
      rw [List.getLast?_cons_cons]
      exact this
theorem stsOf_len {h : Hou} : ∀ (ss : List Stp) (st : List Int), (h.stsOf st ss).length = ss.length + 1
  | [], st => rfl
  | a :: ss, st => by
    show (st :: h.stsOf (h.next st a) ss).length = _
    rw [List.length_cons, stsOf_len ss]
    rfl
theorem stsOf_take {h : Hou} : ∀ (ss : List Stp) (st : List Int) (k : Nat), (h.stsOf st ss).take (k + 1) = h.stsOf st (ss.take k)
  | [], st, k => by simp [Hou.stsOf]
  | a :: ss, st, 0 => by simp [Hou.stsOf]
  | a :: ss, st, k + 1 => by
    show st :: (h.stsOf (h.next st a) ss).take (k + 1) = st :: h.stsOf (h.next st a) (ss.take k)
    rw [stsOf_take ss]
theorem okW_end {h : Hou} (H : HouOk h) : ∀ (ss : List Stp) (hour : Int) (st : List Int), Stat h st → h.left st = none → h.okW hour st ss → Stat h (h.endOf st ss) ∧ h.left (h.endOf st ss) = none
  | [], _, st, k, l, _ => ⟨k, l⟩
  | a :: ss, hour, st, k, l, w => okW_end H ss (hour + 1) (h.next st a) (k.next H w.1 w.2.1) (left_next w.1 w.2.1 l) w.2.2
theorem okW_take {h : Hou} : ∀ (ss : List Stp) (hour : Int) (st : List Int) (k : Nat), h.okW hour st ss → h.okW hour st (ss.take k)
  | [], _, _, k, _ => by simp [Hou.okW]
  | a :: ss, hour, st, 0, _ => trivial
  | a :: ss, hour, st, k + 1, w => ⟨w.1, w.2.1, okW_take ss (hour + 1) _ k w.2.2⟩
theorem okW_at {h : Hou} : ∀ (ss : List Stp) (hour : Int) (st : List Int) (i : Nat) (s : Stp), h.okW hour st ss → ss[i]? = some s → StpOk h s ∧ h.bar (hour + i) (h.endOf st (ss.take i)) s = none
  | [], _, _, i, s, _, e => by simp at e
  | a :: ss, hour, st, 0, s, w, e => by
    have : a = s := by simpa using e
    subst this
    exact ⟨w.1, by simpa [Hou.endOf] using w.2.1⟩
  | a :: ss, hour, st, i + 1, s, w, e => by
    have q := okW_at ss (hour + 1) (h.next st a) i s w.2.2 (by simpa using e)
    refine ⟨q.1, ?_⟩
    have : hour + ((i + 1 : Nat) : Int) = hour + 1 + (i : Int) := by omega
    rw [this]
    exact q.2
theorem steps_mem {h : Hou} (p4 : h.people.length ≤ 4) {hour : Int} {st : List Int} {s : Stp} (hs : s ∈ h.steps hour st) : StpOk h s ∧ h.bar hour st s = none := by
  unfold Hou.steps Hou.stepsN at hs
  rcases List.mem_cons.mp hs with rfl | hs
  · exact ⟨trivial, rfl⟩
  · obtain ⟨d, hd, hs⟩ := List.mem_flatMap.mp hs
    unfold Hou.stepsD at hs
    obtain ⟨g, hg, rfl⟩ := List.mem_map.mp hs
    obtain ⟨h1, h2⟩ := List.mem_filter.mp hg
    have := grps_ok p4 g h1
    exact ⟨⟨List.mem_range.mp hd, this.1, this.2.1, this.2.2⟩, by simpa using h2⟩
end Eb

/-! Eb: begin; lists of steps as data. -/
namespace Eb
open PySem L2
theorem begin_ev {h : Hou} (p4 : h.people.length ≤ 4) {mu : Mu} : m_begin [.ins 0 (hF h)] mu = some (.ok (.tup (dI (h.people.map (·.beg)))), mu) := by
  have f3 : (hF h)[3]? = some (.lst (h.people.map dPer)) := rfl
  have h1 : mLc [1] (mItems (mFld 0 3 (mVar 0))) (tNm 1) (mYes) (mOp ixD (mVar 1) (mC (.int 1))) [some (.ins 0 (hF h)), none] mu = some (.ok (.lst (dI (h.people.map (·.beg)))), mu) := by
    rw [lc_ev (ds := h.people) (f := dPer) (fun _ => true) (fun p => .int p.beg) ?_ ?_ ?_ ?_]
    · rw [fil_true, dI, List.map_map]
      rfl
    · simp [f3]
    · omega
    · intro p hp
      simp
    · intro p hp _
      simp [wipeR]
  simp at h1
  simp [m_begin, h1]
theorem pl_step' {s : Stp} (n : Nat) : pl (n + 3) (dS s) = true := by
  cases s with
  | wait =>
    show ([D.str "wait"].all (pl (n + 2))) = true
    simp only [List.all_cons, List.all_nil, Bool.and_true]
    show PyData.strOk "wait" = true
    decide +kernel
  | go num g =>
    show ([D.str "go", .int num, .tup (dN g)].all (pl (n + 2))) = true
    simp only [List.all_cons, List.all_nil, Bool.and_true]
    have h1 : pl (n + 2) (.str "go") = true := by
      show PyData.strOk "go" = true
      decide +kernel
    have h3 : pl (n + 2) (.tup (dN g)) = true := all_N n g
    rw [h1, h3]
    rfl
theorem pl_steps (l : List Stp) : pl 12 (.lst (l.map dS)) = true := by
  show (l.map dS).all (pl 11) = true
  rw [List.all_map, List.all_eq_true]
  exact fun s _ => pl_step' 8
end Eb

/-! Eb: walked, gone, played. -/
namespace Eb
open PySem L2
theorem steps_pv {h : Hou} (N : HouN h) (h6 : h.doors.length ≤ 6) (h1 : 1 ≤ h.people.length) {st : List Int} (hs : st.length = h.people.length) (hour : Int) (mu : Mu) :
    mPure (mFz m_steps_at_02) [.ins 0 (hF h), .int hour, dT st] mu = some (.ok (.lst ((h.steps hour st).map dS)), mu) := by
  have e := steps_at_ev N h6 h1 hs hour []
  refine pure_of (mu' := [.dead]) (by simp) ?_ (by simpa using cfL_map (f := dS) (fun _ => cf_dS) _)
  unfold mFz
  rw [e]
  rfl
theorem steps_len {h : Hou} (p4 : h.people.length ≤ 4) (d6 : h.doors.length ≤ 6) {hour : Int} {st : List Int} : (h.steps hour st).length ≤ 100 ∧ 1 ≤ (h.steps hour st).length := by
  have a1 := stepsN_len (h := h) (hour := hour) (st := st) (gs := grps h.people.length) h.doors.length
  have a2 := grps_len p4
  have a3 : h.doors.length * (grps h.people.length).length ≤ 6 * 15 := Nat.mul_le_mul d6 a2
  constructor
  · unfold Hou.steps
    omega
  · unfold Hou.steps Hou.stepsN
    simp
theorem walked_ev {h : Hou} (H : HouOk h) (ns : List Int) (r : Row) {st : List Int} (k : Stat h st) (l : h.left st = none) (first : Int) :
    ∃ (ss : List Stp) (r' : Row) (more : Mu), h.okW first st ss ∧ ss.length ≤ 12 ∧ m_lw_walked [.cel 0, dH h, .ins 0 (hF h), dT st, .int first] [rowD ns r] = some (.ok (.tup [.lst (ss.map dS), .lst ((h.stsOf st ss).map dT)]), rowD ns r' :: more) := by
  have N := H.N
  have p4 := H.p4
  have p1 := H.p1
  have d6 := H.d6
  have q13 := mod_lt (x := raw ns r) (m := 13) (by omega)
  obtain ⟨n, hn⟩ : ∃ n : Nat, raw ns r % 13 = (n : Int) := ⟨(raw ns r % 13).toNat, by omega⟩
  let pre : Rho := [some (.cel 0), some (dH h), some (.ins 0 (hF h)), some (dT st), some (.int first), some (.cel 1), some (.cel 2)]
  simp [m_lw_walked, -v_for]
  refine seq_inv (mu1 := [rowD ns (nxt ns r), .lst [], .lst [dT st]]) (ds := List.range n) (f := fun n => D.int (n : Int)) (fun i rh mu => ∃ (ss : List Stp) (r' : Row), ss.length = i ∧ h.okW first st ss ∧ mu = [rowD ns r', .lst (ss.map dS), .lst ((h.stsOf st ss).map dT)] ∧ ∃ a b c d, rh = pre ++ [a, b, c, d]) ?_ ⟨[], _, rfl, trivial, rfl, none, none, none, none, rfl⟩ ?_
    (fun o => ∃ ss, h.okW first st ss ∧ ss.length ≤ 12 ∧ ∃ r' more, fin o = some (Rs.ok (.tup [.lst (ss.map dS), .lst ((h.stsOf st ss).map dT)]), rowD ns r' :: more)) ?_
  · simp [taken_ev, hn, r_1 (show n ≤ 1000000 by omega)]
  · rintro i a ha _ _ ⟨ss, r1, sl, w, rfl, x1, x2, x3, x4, rfl⟩
    have hi : i < n := by
      have := (List.getElem?_eq_some_iff.mp ha).1
      simpa using this
    have ea : a = i := by
      rw [List.getElem?_range hi] at ha
      exact (Option.some.inj ha).symm
    subst ea
    obtain ⟨ks, ls⟩ := okW_end H ss first st k l w
    have last : ((h.stsOf st ss).map dT).getLast? = some (dT (h.endOf st ss)) := by rw [List.getLast?_map, stsOf_last]; rfl
    have e1 := fun mu : Mu => steps_pv N d6 p1 ks.len (first + (a : Int)) mu
    obtain ⟨sl100, sl1⟩ := steps_len (h := h) p4 d6 (hour := first + (a : Int)) (st := h.endOf st ss)
    have sp : 0 < ((h.steps (first + (a : Int)) (h.endOf st ss)).length : Int) := by omega
    have q := mod_lt (x := raw ns r1) sp
    obtain ⟨j, hj⟩ : ∃ j : Nat, raw ns r1 % ((h.steps (first + (a : Int)) (h.endOf st ss)).length : Int) = (j : Int) := ⟨(raw ns r1 % ((h.steps (first + (a : Int)) (h.endOf st ss)).length : Int)).toNat, by omega⟩
    have hj2 : j < (h.steps (first + (a : Int)) (h.endOf st ss)).length := by omega
    obtain ⟨s, hs⟩ : ∃ s, (h.steps (first + (a : Int)) (h.endOf st ss))[j]? = some s := ⟨_, List.getElem?_eq_getElem hj2⟩
    obtain ⟨ok, nb⟩ := steps_mem p4 (List.mem_of_getElem? hs)
    have t1 := fun r rest => taken_ev (ns := ns) (r := r) (rest := rest) sp
    have e2 := fun mu : Mu => lw_next_ev ks ok nb mu
    have kn := ks.next H ok nb
    have ln := left_next ok nb ls
    have e3 : ∀ mu : Mu, mPure m_lw_is_right [dH h, dT (h.next (h.endOf st ss) s)] mu = some (.ok (.bl true), mu) := fun mu => by
      have := is_right_ev H kn.len (mu := [])
      rw [right_iff N kn.rng, ln] at this
      exact pure_of (by simp) this rfl
    have e4 := fun mu : Mu => led_ev H ks.len (fun n hn => (ks.rng n hn).1) ok nb mu
    have w2 := okW_snoc ss first st w ok (by rw [sl]; exact nb)
    have es := stsOf_snoc (h := h) (s := s) ss st
    have sl2 : ss.length < 100000 := by omega
    have sl3 : (h.stsOf st ss).length < 100000 := by rw [stsOf_len]; omega
    generalize h.next (h.endOf st ss) s = st2 at *
    generalize h.steps (first + (a : Int)) (h.endOf st ss) = S0 at *
    generalize h.endOf st ss = st1 at *
    generalize hq : h.stsOf st ss = Q at *
    simp [pre, last, e1, t1, hj, hs, e2, e3, e4, sl2, sl3]
    refine ⟨_, _, ⟨rfl, rfl⟩, ss ++ [s], by simp [sl], w2, ?_, _, _, _, _, rfl⟩
    refine ⟨nxt ns r1, ?_⟩
    rw [es, List.map_append, List.map_append]
    rfl
  · rintro _ _ ⟨ss, r1, sl, w, rfl, x1, x2, x3, x4, rfl⟩
    rw [List.length_range] at sl
    refine ⟨ss, w, by omega, r1, [.dead, .dead], ?_⟩
    simp [pre]

theorem stsOf_next {h : Hou} {st : List Int} {ss : List Stp} {i : Nat} {s : Stp} (e : ss[i]? = some s) : h.stsOf st (ss.take (i + 1)) = h.stsOf st (ss.take i) ++ [h.next (h.endOf st (ss.take i)) s] := by
  rw [List.take_add_one, e]
  exact stsOf_snoc (ss.take i) st
theorem gone_ev {h : Hou} (H : HouOk h) {st : List Int} (k : Stat h st) (l : h.left st = none) {ss : List Stp} (w : h.okW 0 st ss) (hh : (ss.length : Int) ≤ h.hours) (mu : Mu) :
    m_gone_02 [.ins 0 (hF h), .lst (ss.map dS), .int 0, dT st] mu = some (.ok (.lst ((h.stsOf st ss).map dT)), mu ++ [.dead]) := by
  have N := H.N
  have p4 := H.p4
  have h8 := H.h8
  have f1 : (hF h)[1]? = some (.int h.hours) := rfl
  let pre : Rho := [some (.ins 0 (hF h)), some (.lst (ss.map dS)), some (.int 0), some (dT st), some (.cel mu.length)]
  simp [m_gone_02, -v_for]
  refine seq_inv (mu1 := mu ++ [.lst [dT st]]) (ds := List.range ss.length) (f := fun n => D.int (n : Int)) (fun i rh mu' => mu' = mu ++ [.lst ((h.stsOf st (ss.take i)).map dT)] ∧ ∃ a b, rh = pre ++ [a, b]) ?_ ⟨rfl, none, none, rfl⟩ ?_ (fun o => fin o = some (Rs.ok (.lst ((h.stsOf st ss).map dT)), mu ++ [.dead])) ?_
  · simp [pre, r_1 (show ss.length ≤ 1000000 by omega)]
  · rintro i a ha _ _ ⟨rfl, x1, x2, rfl⟩
    have hi : i < ss.length := by
      have := (List.getElem?_eq_some_iff.mp ha).1
      simpa using this
    have ea : a = i := by
      rw [List.getElem?_range hi] at ha
      exact (Option.some.inj ha).symm
    subst ea
    obtain ⟨s, hs⟩ : ∃ s, ss[a]? = some s := ⟨_, List.getElem?_eq_getElem hi⟩
    obtain ⟨ok, nb⟩ := okW_at ss 0 st a s w hs
    obtain ⟨ks, ls⟩ := okW_end H (ss.take a) 0 st k l (okW_take ss 0 st a w)
    have last : ((h.stsOf st (ss.take a)).map dT).getLast? = some (dT (h.endOf st (ss.take a))) := by rw [List.getLast?_map, stsOf_last]; rfl
    have ez : (0 : Int) + (a : Int) = (a : Int) := by omega
    rw [ez] at nb
    have o1 : ∀ mu : Mu, insOf mu (.ins 0 (hF h)) = some (0, hF h) := fun _ => rfl
    have e1 := fun mu : Mu => bar_ev N ks.len (o1 mu) (a : Int) ok
    have e2 := fun mu : Mu => next_ev p4 ks ok mu
    have lt : ¬ h.hours ≤ (a : Int) := by omega
    rw [nb] at e1
    have es := stsOf_next (h := h) (st := st) hs
    have sl3 : (h.stsOf st (ss.take a)).length < 100000 := by rw [stsOf_len, List.length_take]; omega
    generalize h.next (h.endOf st (ss.take a)) s = st2 at *
    generalize h.endOf st (ss.take a) = st1 at *
    generalize hq : h.stsOf st (ss.take a) = Q at *
    rw [es]
    simp [pre, f1, last, e1, e2, hs, lt, sl3, dB]
    exact ⟨_, _, ⟨rfl, rfl⟩, rfl, _, _, rfl⟩
  · rintro _ _ ⟨rfl, x1, x2, rfl⟩
    rw [List.length_range, List.take_length]
    simp [pre]

theorem played_ev {h : Hou} (H : HouOk h) {ss : List Stp} (w : h.okW 0 (h.people.map (·.beg)) ss) (hh : (ss.length : Int) ≤ h.hours) (k : Stat h (h.people.map (·.beg))) (mu : Mu) :
    m_played_02 [.ins 0 (hF h), .lst (ss.map dS)] mu = some (.ok (.lst ((h.stsOf (h.people.map (·.beg)) ss).map dT)), mu ++ [.dead]) := by
  have N := H.N
  have p4 := H.p4
  have o1 : ∀ mu : Mu, insOf mu (.ins 0 (hF h)) = some (0, hF h) := fun _ => rfl
  have e1 := gone_ev H k H.left w hh mu
  have e2 := begin_ev (h := h) p4 (mu := mu)
  simp [m_played_02, -v_for]
  refine seq_nx (mu1 := mu) (ds := ss) (f := dS) (fun rh => ∃ a, rh = [some (.ins 0 (hF h)), some (.lst (ss.map dS)), a]) ?_ ⟨none, rfl⟩ ?_ (fun o => fin o = some (Rs.ok (.lst ((h.stsOf (h.people.map (·.beg)) ss).map dT)), mu ++ [.dead])) ?_
  · simp
  · rintro s hs _ ⟨a, rfl⟩
    obtain ⟨i, hi, rfl⟩ := List.getElem_of_mem hs
    have := (okW_at ss 0 _ i _ w (List.getElem?_eq_getElem hi)).1
    have e3 := need_ev N (o1 mu) this
    simp [e3]
  · rintro _ ⟨a, rfl⟩
    generalize h.people.map (·.beg) = st at *
    simp [e2, e1]
end Eb

/-! Eb: goings; met; rows of a table. -/
namespace Eb
open PySem
def Hou.goings (h : Hou) : Stp → Nat
  | .wait => 0
  | .go _ g => (g.filter fun n => decide (0 < (h.P n).most)).length
theorem goings_ev {h : Hou} (p4 : h.people.length ≤ 4) {s : Stp} (ok : StpOk h s) (mu : Mu) : m_goings [.ins 0 (hF h), dS s] mu = some (.ok (.int (h.goings s : Int)), mu) := by
  cases s with
  | wait => simp [m_goings, Hou.goings]
  | go d g =>
    obtain ⟨hd, G⟩ := ok
    have gl : g.length ≤ 100000 := by
      have := up_len G.up G.lt
      omega
    have f3 : (hF h)[3]? = some (.lst (h.people.map dPer)) := rfl
    simp [m_goings]
    rw [lc_ev (ds := g) (f := fun n => D.int (n : Int)) (fun n => decide (0 < (h.P n).most)) (fun n => D.int (n : Int)) (by simp) gl ?_ ?_]
    · simp [Hou.goings]
    · intro n hn
      simp [wipeR, f3, Hou.P_of (G.lt n hn), dPer]
    · intro n hn _
      simp [wipeR]
def Hou.metP (h : Hou) (st : List Int) (n : Nat) : Bool := decide ((h.P n).goal = -1) || decide ((h.P n).goal = S st n)
def Hou.met (h : Hou) (st : List Int) : Bool := (List.range st.length).all (h.metP st)
theorem is_met_ev {h : Hou} {st : List Int} (hs : st.length = h.people.length) (p4 : h.people.length ≤ 4) (mu : Mu) : m_is_met [.ins 0 (hF h), dT st] mu = some (.ok (.bl (h.met st)), mu) := by
  have f3 : (hF h)[3]? = some (.lst (h.people.map dPer)) := rfl
  simp [m_is_met, -v_for]
  rw [seq_find (ds := List.range st.length) (f := fun n => D.int (n : Int)) (fun rh => ∃ a, rh = [some (.ins 0 (hF h)), some (.tup (dI st)), a]) (fun n => !h.metP st n) (fun n => .bl false) (out := some (.rt (.bl true), mu)) ?_ ⟨none, rfl⟩ ?_ ?_]
  · unfold Hou.met
    cases hf : (List.range st.length).find? (fun n => !h.metP st n) with
    | none =>
      have : (List.range st.length).all (h.metP st) = true := by
        rw [List.all_eq_true]
        intro n hn
        have := List.find?_eq_none.mp hf n hn
        simpa using this
      rw [this]
      rfl
    | some n =>
      have : (List.range st.length).all (h.metP st) = false := by
        rw [List.all_eq_false]
        exact ⟨n, List.mem_of_find?_eq_some hf, by have := List.find?_some hf; simpa using this⟩
      rw [this]
      rfl
  · have : st.length ≤ 1000000 := by omega
    simp [this]
  · rintro n hn _ ⟨a, rfl⟩
    have n1 : n < st.length := List.mem_range.mp hn
    have n2 : n < h.people.length := by omega
    have es : st[n]? = some (S st n) := S_of n1
    have ei : inB mu (.int (h.P n).goal) (.tup [.int (-1), .int (S st n)]) = some (h.metP st n) := by
      have := inB_T (mu := mu) (a := (h.P n).goal) (l := [-1, S st n])
      rw [show D.tup [.int (-1), .int (S st n)] = .tup (dI [-1, S st n]) from rfl, this]
      unfold Hou.metP
      simp
    have en : notinD mu (.int (h.P n).goal) (.tup [.int (-1), .int (S st n)]) = some (.bl (!h.metP st n)) := by
      unfold notinD
      rw [ei]
      rfl
    simp [f3, Hou.P_of n2, dPer, es, en]
    cases h.metP st n <;> simp
  · rintro _ _ ⟨a, rfl⟩
    simp
/-! ### rows of a table: states and what stands at them -/
section
variable {α : Type}
def getR : List (List Int × α) → List Int → Option α
  | [], _ => none
  | p :: L, x => if p.1 = x then some p.2 else getR L x
def putR : List (List Int × α) → List Int → α → List (List Int × α)
  | [], x, v => [(x, v)]
  | p :: L, x, v => if p.1 = x then (p.1, v) :: L else p :: putR L x v
theorem getR_pos {p : List Int × α} {L : List (List Int × α)} {x : List Int} (h : p.1 = x) : getR (p :: L) x = some p.2 := if_pos h
theorem getR_neg {p : List Int × α} {L : List (List Int × α)} {x : List Int} (h : ¬ p.1 = x) : getR (p :: L) x = getR L x := if_neg h
theorem putR_pos {p : List Int × α} {L : List (List Int × α)} {x : List Int} {v : α} (h : p.1 = x) : putR (p :: L) x v = (p.1, v) :: L := if_pos h
theorem putR_neg {p : List Int × α} {L : List (List Int × α)} {x : List Int} {v : α} (h : ¬ p.1 = x) : putR (p :: L) x v = p :: putR L x v := if_neg h
theorem dget_R (f : α → D) (x : List Int) : ∀ L : List (List Int × α), dget (L.map (·.1)) (L.map fun p => f p.2) x = (getR L x).map f
  | [] => rfl
  | p :: L => by
    show (if p.1 = x then some (f p.2) else dget (L.map (·.1)) (L.map fun p => f p.2) x) = _
    by_cases h : p.1 = x
    · rw [if_pos h, getR_pos h]; rfl
    · rw [if_neg h, getR_neg h, dget_R f x L]
theorem dput_R (f : α → D) (x : List Int) (v : α) : ∀ L : List (List Int × α), dput (L.map (·.1)) (L.map fun p => f p.2) x (f v) = ((putR L x v).map (·.1), (putR L x v).map fun p => f p.2)
  | [] => rfl
  | p :: L => by
    rw [List.map_cons, List.map_cons]
    by_cases h : p.1 = x
    · rw [dput_pos h, putR_pos h]; rfl
    · rw [dput_neg h, putR_neg h, dput_R f x v L]; rfl
theorem get_put (x y : List Int) (v : α) : ∀ L : List (List Int × α), getR (putR L x v) y = if x = y then some v else getR L y
  | [] => by
    show (if x = y then some v else none) = _
    rfl
  | p :: L => by
    by_cases h : p.1 = x
    · rw [putR_pos h]
      by_cases e : x = y
      · rw [if_pos e, getR_pos (p := (p.1, v)) (h.trans e)]
      · rw [if_neg e, getR_neg (p := (p.1, v)) (fun z => e (h.symm.trans z)), getR_neg (fun z => e (h.symm.trans z))]
    · rw [putR_neg h]
      by_cases e : p.1 = y
      · rw [getR_pos e, getR_pos e, if_neg (fun z => h (e.trans z.symm))]
      · rw [getR_neg e, getR_neg e, get_put x y v L]
theorem put_mem (x y : List Int) (v : α) : ∀ L : List (List Int × α), y ∈ (putR L x v).map (·.1) ↔ y ∈ L.map (·.1) ∨ y = x
  | [] => by simp [putR]
  | p :: L => by
    by_cases h : p.1 = x
    · rw [putR_pos h, List.map_cons, List.map_cons, List.mem_cons]
      constructor
      · exact .inl
      · rintro (h' | h')
        · exact h'
        · exact .inl (h'.trans h.symm)
    · rw [putR_neg h, List.map_cons, List.map_cons, List.mem_cons, List.mem_cons, put_mem x y v L, or_assoc]
theorem put_nd (x : List Int) (v : α) : ∀ L : List (List Int × α), (L.map (·.1)).Nodup → ((putR L x v).map (·.1)).Nodup
  | [], _ => by simp [putR]
  | p :: L, n => by
    rw [List.map_cons, List.nodup_cons] at n
    by_cases h : p.1 = x
    · rw [putR_pos h, List.map_cons]
      exact List.nodup_cons.mpr n
    · rw [putR_neg h, List.map_cons]
      refine List.nodup_cons.mpr ⟨fun m => ?_, put_nd x v L n.2⟩
      rcases (put_mem x p.1 v L).mp m with m | m
      · exact n.1 m
      · exact h m
theorem put_len (x : List Int) (v : α) : ∀ L : List (List Int × α), (putR L x v).length ≤ L.length + 1
  | [] => Nat.le_refl _
  | p :: L => by
    by_cases h : p.1 = x
    · rw [putR_pos h]
      simp
    · rw [putR_neg h, List.length_cons, List.length_cons]
      have := put_len x v L
      omega
theorem get_some (x : List Int) : ∀ L : List (List Int × α), (getR L x).isSome = true ↔ x ∈ L.map (·.1)
  | [] => by simp [getR]
  | p :: L => by
    by_cases h : p.1 = x
    · rw [getR_pos h, List.map_cons, List.mem_cons]
      simp [h]
    · rw [getR_neg h, List.map_cons, List.mem_cons, get_some x L]
      constructor
      · exact .inr
      · rintro (e | e)
        · exact absurd e.symm h
        · exact e
end
/-- a row, a row's whence -/
abbrev Row1 := List (List Int × Int)
abbrev Row2 := List (List Int × (List Int × Stp))
def cR (L : Row1) : Cell := .dic (L.map (·.1)) (L.map fun p => .int p.2)
def cB (L : Row2) : Cell := .dic (L.map (·.1)) (L.map fun p => .tup [dT p.2.1, dS p.2.2])
def dR (L : Row1) : D := .dic (L.map (·.1)) (L.map fun p => .int p.2)
/-- one step more: the least number so far, and whence -/
def Hou.cand (h : Hou) (n : Int) (st : List Int) (F : Row1 × Row2) (s : Stp) : Row1 × Row2 :=
  if (match getR F.1 (h.next st s) with | none => true | some m => decide (n + h.goings s < m)) = true then (putR F.1 (h.next st s) (n + h.goings s), putR F.2 (h.next st s) (st, s)) else F
def Hou.candsAt (h : Hou) (hour : Int) (R : Row1) (F : Row1 × Row2) (st : List Int) : Row1 × Row2 := (h.steps hour st).foldl (h.cand ((getR R st).getD 0) st) F
def Hou.goOn (h : Hou) (hour : Int) (R : Row1) : Row1 × Row2 := (srtT (R.map (·.1))).foldl (h.candsAt hour R) ([], [])
end Eb

/-! Eb: how many states there are; one row more. -/
namespace Eb
open PySem
theorem nd_len {α : Type} [DecidableEq α] : ∀ {l m : List α}, l.Nodup → (∀ x ∈ l, x ∈ m) → l.length ≤ m.length
  | [], _, _, _ => Nat.zero_le _
  | a :: l, m, nd, h => by
    rw [List.nodup_cons] at nd
    have hm := h a List.mem_cons_self
    have := nd_len (l := l) (m := m.erase a) nd.2 fun x hx => (List.mem_erase_of_ne (fun e => nd.1 (by rw [← e]; exact hx))).mpr (h x (List.mem_cons_of_mem _ hx))
    rw [List.length_erase_of_mem hm] at this
    have := List.length_pos_of_mem hm
    rw [List.length_cons]
    omega
def allS (z : Nat) : Nat → List (List Int)
  | 0 => [[]]
  | n + 1 => (List.range z).flatMap fun (a : Nat) => (allS z n).map fun l => (a : Int) :: l
theorem flat_len {α β : Type} {f : α → List β} {n : Nat} : ∀ l : List α, (∀ a ∈ l, (f a).length = n) → (l.flatMap f).length = l.length * n
  | [], _ => by simp
  | a :: l, h => by
    rw [List.flatMap_cons, List.length_append, h a List.mem_cons_self, flat_len l fun b hb => h b (List.mem_cons_of_mem _ hb), List.length_cons, Nat.add_mul]
    omega
theorem allS_len (z : Nat) : ∀ n, (allS z n).length = z ^ n
  | 0 => rfl
  | n + 1 => by
    show ((List.range z).flatMap fun (a : Nat) => (allS z n).map fun l => (a : Int) :: l).length = _
    rw [flat_len (n := z ^ n) _ fun a _ => by rw [List.length_map, allS_len z n], List.length_range, Nat.pow_succ, Nat.mul_comm]
theorem allS_mem (z : Nat) : ∀ (st : List Int), (∀ x ∈ st, 0 ≤ x ∧ x < z) → st ∈ allS z st.length
  | [], _ => by simp [allS]
  | a :: st, h => by
    obtain ⟨h1, h2⟩ := h a List.mem_cons_self
    show _ ∈ (List.range z).flatMap fun (a : Nat) => (allS z st.length).map fun l => (a : Int) :: l
    rw [List.mem_flatMap]
    refine ⟨a.toNat, List.mem_range.mpr (by omega), List.mem_map.mpr ⟨st, allS_mem z st fun x hx => h x (List.mem_cons_of_mem _ hx), ?_⟩⟩
    rw [Int.toNat_of_nonneg h1]
theorem stats_len {h : Hou} (z1 : 0 ≤ h.zones) (z4 : h.zones ≤ 4) (p4 : h.people.length ≤ 4) {L : List (List Int)} (nd : L.Nodup) (hs : ∀ st ∈ L, Stat h st) : L.length ≤ 256 := by
  have h1 := nd_len (m := allS h.zones.toNat h.people.length) nd fun st hst => by
    have k := hs st hst
    rw [← k.len]
    refine allS_mem _ st fun x hx => ?_
    obtain ⟨n, hn, rfl⟩ := List.mem_iff_getElem.mp hx
    have := k.rng n hn
    have es : S st n = st[n] := by show (st[n]?).getD 0 = _; rw [List.getElem?_eq_getElem hn]; rfl
    rw [es] at this
    rw [Int.toNat_of_nonneg z1]
    exact this
  rw [allS_len] at h1
  have h2 : h.zones.toNat ^ h.people.length ≤ 4 ^ h.people.length := Nat.pow_le_pow_left (by omega) _
  have h3 : 4 ^ h.people.length ≤ 4 ^ 4 := Nat.pow_le_pow_right (by decide) p4
  have h4 : (4 : Nat) ^ 4 = 256 := by decide
  omega
/-- a row whose states are states of the house, none twice -/
structure RowOk (h : Hou) {α : Type} (L : List (List Int × α)) : Prop where
  nd : (L.map (·.1)).Nodup
  st : ∀ s ∈ L.map (·.1), Stat h s
theorem RowOk.len {h : Hou} {α : Type} {L : List (List Int × α)} (k : RowOk h L) (z1 : 0 ≤ h.zones) (z4 : h.zones ≤ 4) (p4 : h.people.length ≤ 4) : L.length ≤ 256 := by
  have := stats_len z1 z4 p4 k.nd k.st
  rwa [List.length_map] at this
theorem RowOk.put {h : Hou} {α : Type} {L : List (List Int × α)} (k : RowOk h L) {st : List Int} (hs : Stat h st) (v : α) : RowOk h (putR L st v) :=
  ⟨put_nd st v L k.nd, fun s hm => by
    rcases (put_mem st s v L).mp hm with hm | rfl
    · exact k.st s hm
    · exact hs⟩
theorem RowOk.nil {h : Hou} {α : Type} : RowOk h ([] : List (List Int × α)) := ⟨List.nodup_nil, fun s hm => by cases hm⟩
theorem ite_or {α : Type} {c : Prop} [Decidable c] {a b : α} : (if c then a else b) = a ∨ (if c then a else b) = b := by by_cases h : c <;> simp [h]
theorem cand_ok {h : Hou} {n : Int} {st : List Int} {F : Row1 × Row2} {s : Stp} (k1 : RowOk h F.1) (k2 : RowOk h F.2) (hs : Stat h (h.next st s)) : RowOk h (h.cand n st F s).1 ∧ RowOk h (h.cand n st F s).2 := by
  have e : h.cand n st F s = (putR F.1 (h.next st s) (n + h.goings s), putR F.2 (h.next st s) (st, s)) ∨ h.cand n st F s = F := ite_or
  rcases e with e | e
  · rw [e]
    exact ⟨k1.put hs _, k2.put hs _⟩
  · rw [e]
    exact ⟨k1, k2⟩
theorem keyOf_I (st : List Int) : keyOf (dT st) = some st := by
  show intsOf (dI st) = some st
  induction st with
  | nil => rfl
  | cons a st ih =>
    show (intsOf (dI st)).map (a :: ·) = _
    rw [ih]
    rfl
theorem dget_cR (L : Row1) (st : List Int) : dget (L.map (·.1)) (L.map fun p => D.int p.2) st = (getR L st).map .int := dget_R D.int st L
end Eb

/-! Eb: one row more, reckoned. -/
namespace Eb
open PySem L2
section
variable {M0 : Mu} {a b c : Cell}
theorem two_get0 {k : Nat} {x : Cell} (h : M0[k]? = some x) : (M0 ++ [a, b])[k]? = some x := by
  rw [List.getElem?_append_left (List.getElem?_eq_some_iff.mp h).1, h]
theorem two_get1 : (M0 ++ [a, b])[M0.length]? = some a := by simp
theorem two_get2 : (M0 ++ [a, b])[M0.length + 1]? = some b := by
  rw [List.getElem?_append_right (by omega)]
  simp
theorem two_set1 : (M0 ++ [a, b]).set M0.length c = M0 ++ [c, b] := by
  rw [List.set_append_right _ _ (by omega)]
  simp
theorem two_set2 : (M0 ++ [a, b]).set (M0.length + 1) c = M0 ++ [a, c] := by
  rw [List.set_append_right _ _ (by omega)]
  simp
end
def goB : MS := (sSeq (sAsg (mCall (mPure m_behind) (mCons (mFld 1 0 (mVar 0)) (mCons (mVar 4) (mCons (mVar 5) (mNil))))) (tNm 6)) (sSeq (sAsg (mOp addD (mOp dgetD (mOp ixD (mFld 1 2 (mVar 0)) (mNeg (mC (.int 1)))) (mVar 4)) (mCall (mPure m_goings) (mCons (mFld 1 0 (mVar 0)) (mCons (mVar 5) (mNil))))) (tNm 7)) (sIf (mOr (mTest (mOp dninD (mVar 6) (mVar 2))) (mTest (mOp ltD (mVar 7) (mOp dgetD (mVar 2) (mVar 6))))) (sSeq (sPutD (mVar 2) (mVar 6) (mVar 7)) (sPutD (mVar 3) (mVar 6) (mTup (mCons (mVar 4) (mCons (mVar 5) (mNil)))))) (sSkip))))
theorem dicOf_c {mu : Mu} {k : Nat} {ks : List (List Int)} {ds : List D} (hk : mu[k]? = some (.dic ks ds)) : dicOf mu (.cel k) = some (ks, ds) := by
  show (match mu[k]? with | some (.dic ks ds) => some (ks, ds) | _ => none) = _
  rw [hk]
theorem insOf_c {mu : Mu} {k c : Nat} {ds : List D} (hk : mu[k]? = some (.ins c ds)) : insOf mu (.cel k) = some (c, ds) := by
  show (match mu[k]? with | some (.ins c ds) => some (c, ds) | _ => none) = _
  rw [hk]
theorem stD_c {mu : Mu} {k : Nat} {i y : D} {x : List Int} {ks : List (List Int)} {ds : List D} (hi : keyOf i = some x) (hk : mu[k]? = some (.dic ks ds)) (hl : ks.length < 100000) : stD (.cel k) i y mu = some (mu.set k (.dic (dput ks ds x y).1 (dput ks ds x y).2)) := by
  unfold stD
  rw [hi]
  dsimp only
  rw [hk]
  exact if_pos hl
theorem dnin_ev {mu : Mu} {k : Nat} {L : Row1} {st : List Int} (hk : mu[k]? = some (cR L)) : dninD mu (dT st) (.cel k) = some (.bl (getR L st).isNone) := by
  unfold dninD dhasB
  rw [dicOf_c hk, keyOf_I]
  show some (D.bl (!(dget (L.map (·.1)) (L.map fun p => D.int p.2) st).isSome)) = _
  rw [dget_cR]
  cases getR L st <;> rfl
theorem dgetC_ev {mu : Mu} {k : Nat} {L : Row1} {st : List Int} (hk : mu[k]? = some (cR L)) : dgetD mu (.cel k) (dT st) = (getR L st).map .int := by
  unfold dgetD
  rw [dicOf_c hk, keyOf_I]
  exact dget_cR L st
theorem dgetR_ev {mu : Mu} {L : Row1} {st : List Int} : dgetD mu (dR L) (dT st) = (getR L st).map .int := by
  unfold dgetD
  rw [keyOf_I]
  exact dget_cR L st
theorem stD1 {mu : Mu} {k : Nat} {L : Row1} {st : List Int} {v : Int} (hk : mu[k]? = some (cR L)) (hl : L.length < 100000) : stD (.cel k) (dT st) (.int v) mu = some (mu.set k (cR (putR L st v))) := by
  rw [stD_c (keyOf_I st) hk (by rw [List.length_map]; exact hl)]
  have := dput_R D.int st v L
  rw [this]
  rfl
theorem stD2 {mu : Mu} {k : Nat} {L : Row2} {st st' : List Int} {s : Stp} (hk : mu[k]? = some (cB L)) (hl : L.length < 100000) : stD (.cel k) (dT st) (.tup [dT st', dS s]) mu = some (mu.set k (cB (putR L st (st', s)))) := by
  rw [stD_c (keyOf_I st) hk (by rw [List.length_map]; exact hl)]
  have := dput_R (fun p : List Int × Stp => D.tup [dT p.1, dS p.2]) st (st', s) L
  rw [this]
  rfl
theorem cand_ev {h : Hou} (p4 : h.people.length ≤ 4) {M0 : Mu} {hour h0 n : Int} {rows bys : List D} {R : Row1} {F : Row1 × Row2} {st : List Int} {s : Stp} (e0 : M0[0]? = some (.ins 1 [.ins 0 (hF h), .int h0, .cel 1, .cel 2])) (e1 : M0[1]? = some (.lst rows)) (er : atI rows (-1) = some (dR R))
    (hg : getR R st = some n) (k : Stat h st) (ok : StpOk h s) (l1 : F.1.length ≤ 256) (l2 : F.2.length ≤ 256) (x6 x7 : Option D) :
    ∃ x6' x7', goB [some (.cel 0), some (.int hour), some (.cel M0.length), some (.cel (M0.length + 1)), some (dT st), some (dS s), x6, x7] (M0 ++ [cR F.1, cB F.2])
      = some (.nx [some (.cel 0), some (.int hour), some (.cel M0.length), some (.cel (M0.length + 1)), some (dT st), some (dS s), x6', x7'], M0 ++ [cR (h.cand n st F s).1, cB (h.cand n st F s).2]) := by
  have f0 := two_get0 (a := cR F.1) (b := cB F.2) e0
  have f1 := two_get0 (a := cR F.1) (b := cB F.2) e1
  have b1 := fun mu : Mu => pure_of (f := m_behind) (mu := mu) (by simp) (next_ev p4 k ok []) (by simp)
  have g1 := fun mu : Mu => pure_of (f := m_goings) (mu := mu) (by simp) (goings_ev p4 ok []) (by simp)
  have d1 := dgetR_ev (mu := M0 ++ [cR F.1, cB F.2]) (L := R) (st := st)
  rw [hg] at d1
  have c1 := dnin_ev (L := F.1) (st := h.next st s) (two_get1 (M0 := M0) (a := cR F.1) (b := cB F.2))
  have c2 := dgetC_ev (L := F.1) (st := h.next st s) (two_get1 (M0 := M0) (a := cR F.1) (b := cB F.2))
  have p1 := stD1 (st := h.next st s) (v := n + h.goings s) (two_get1 (M0 := M0) (a := cR F.1) (b := cB F.2)) (by omega)
  rw [two_set1] at p1
  have p2 := stD2 (L := F.2) (st := h.next st s) (st' := st) (s := s) (two_get2 (M0 := M0) (a := cR (putR F.1 (h.next st s) (n + h.goings s))) (b := cB F.2)) (by omega)
  rw [two_set2] at p2
  refine ⟨some (dT (h.next st s)), some (.int (n + h.goings s)), ?_⟩
  unfold Hou.cand
  cases hq : getR F.1 (h.next st s) with
  | none =>
    rw [hq] at c1 c2
    simp only [if_true]
    generalize M0 ++ [cR F.1, cB F.2] = m1 at *
    generalize M0 ++ [cR (putR F.1 (h.next st s) (n + h.goings s)), cB F.2] = m2 at *
    generalize M0 ++ [cR (putR F.1 (h.next st s) (n + h.goings s)), cB (putR F.2 (h.next st s) (st, s))] = m3 at *
    simp [goB, f0, f1, er, b1, g1, d1, c1, c2, p1, p2, sPutD]
  | some m =>
    rw [hq] at c1 c2
    by_cases hm : n + (h.goings s : Int) < m
    · simp only [hm, decide_true, if_true]
      generalize M0 ++ [cR F.1, cB F.2] = m1 at *
      generalize M0 ++ [cR (putR F.1 (h.next st s) (n + h.goings s)), cB F.2] = m2 at *
      generalize M0 ++ [cR (putR F.1 (h.next st s) (n + h.goings s)), cB (putR F.2 (h.next st s) (st, s))] = m3 at *
      simp [goB, f0, f1, er, b1, g1, d1, c1, c2, p1, p2, hm, sPutD]
    · simp only [hm, decide_false, Bool.false_eq_true, if_false]
      generalize M0 ++ [cR F.1, cB F.2] = m1 at *
      simp [goB, f0, f1, er, b1, g1, d1, c1, c2, hm, sPutD]
end Eb

/-! Eb: one row more: all candidates. -/
namespace Eb
open PySem L2
theorem srtT_mem {l : List (List Int)} {x : List Int} : x ∈ srtT l ↔ x ∈ l := (srtT_perm l).mem_iff
def goRh (hour : Int) (N : Nat) (x4 x5 x6 x7 : Option D) : Rho := [some (.cel 0), some (.int hour), some (.cel N), some (.cel (N + 1)), x4, x5, x6, x7]
def goIn : MS := sFor (mItems (mCall (mPure (mFz m_steps_at_02)) (mCons (mFld 1 0 (mVar 0)) (mCons (mVar 1) (mCons (mVar 4) (mNil)))))) (tNm 5) goB
theorem inner_ev {h : Hou} (H : HouOk h) {M0 : Mu} {hour h0 : Int} {rows : List D} {R : Row1} (e0 : M0[0]? = some (.ins 1 [.ins 0 (hF h), .int h0, .cel 1, .cel 2])) (e1 : M0[1]? = some (.lst rows)) (er : atI rows (-1) = some (dR R))
    {st : List Int} (k : Stat h st) (hm : st ∈ R.map (·.1)) {F : Row1 × Row2} (k1 : RowOk h F.1) (k2 : RowOk h F.2) (x5 x6 x7 : Option D) :
    ∃ y5 y6 y7, goIn (goRh hour M0.length (some (dT st)) x5 x6 x7) (M0 ++ [cR F.1, cB F.2]) = some (.nx (goRh hour M0.length (some (dT st)) y5 y6 y7), M0 ++ [cR (h.candsAt hour R F st).1, cB (h.candsAt hour R F st).2]) ∧ RowOk h (h.candsAt hour R F st).1 ∧ RowOk h (h.candsAt hour R F st).2 := by
  have p4 := H.p4
  have z1 : 0 ≤ h.zones := by have := H.z1; omega
  have z4 := H.z4
  obtain ⟨n, hg⟩ : ∃ n, getR R st = some n := Option.isSome_iff_exists.mp ((get_some st R).mpr hm)
  have e := fun mu : Mu => steps_pv H.N H.d6 H.p1 k.len hour mu
  have f0 := two_get0 (a := cR F.1) (b := cB F.2) e0
  have hi : mItems (mCall (mPure (mFz m_steps_at_02)) (mCons (mFld 1 0 (mVar 0)) (mCons (mVar 1) (mCons (mVar 4) (mNil))))) (goRh hour M0.length (some (dT st)) x5 x6 x7) (M0 ++ [cR F.1, cB F.2]) = some (.ok ((h.steps hour st).map dS), M0 ++ [cR F.1, cB F.2]) := by
    generalize M0 ++ [cR F.1, cB F.2] = m1 at *
    simp [goRh, f0, e]
  obtain ⟨r', mu', q1, q2, q3, q4, y5, y6, y7, q5⟩ := loop_fold (ds := h.steps hour st) (f := dS) (j := 5) (b := goB) (h.cand ((getR R st).getD 0) st) (fun F rh mu => RowOk h F.1 ∧ RowOk h F.2 ∧ mu = M0 ++ [cR F.1, cB F.2] ∧ ∃ x5 x6 x7, rh = goRh hour M0.length (some (dT st)) x5 x6 x7)
    (by
      rintro s hs F _ _ ⟨k1, k2, rfl, x5, x6, x7, rfl⟩
      obtain ⟨ok, eb⟩ := steps_mem p4 hs
      have kn := Stat.next H k ok eb
      obtain ⟨a, b, hb⟩ := cand_ev (hour := hour) (F := F) (s := s) (bys := []) p4 e0 e1 er hg k ok (k1.len z1 z4 p4) (k2.len z1 z4 p4) x6 x7
      obtain ⟨c1, c2⟩ := cand_ok (n := n) (st := st) (s := s) k1 k2 kn
      rw [hg]
      exact ⟨_, _, hb, c1, c2, rfl, _, _, _, rfl⟩) (s := F) (rh := goRh hour M0.length (some (dT st)) x5 x6 x7) (mu := M0 ++ [cR F.1, cB F.2]) ⟨k1, k2, rfl, _, _, _, rfl⟩
  subst q4 q5
  refine ⟨y5, y6, y7, ?_, q2, q3⟩
  show bindS _ (fun ds => loopS (tNm 5) goB ds) _ _ = _
  rw [bindS_ok hi]
  exact q1
def dBd (L : Row2) : D := .dic (L.map (·.1)) (L.map fun p => .tup [dT p.2.1, dS p.2.2])
def goRest : MS := (sSeq (sFrzD 3) (sSeq (sFrzD 2) (sSeq (sDrop (mBM isCell appF (mFld 1 2 (mVar 0)) (mCons (mVar 2) (mNil)))) (sDrop (mBM isCell appF (mFld 1 3 (mVar 0)) (mCons (mVar 3) (mNil)))))))
theorem rest_ev {M0 : Mu} {hf : D} {hour h0 : Int} {rows bys : List D} {F : Row1 × Row2} (e0 : M0[0]? = some (.ins 1 [hf, .int h0, .cel 1, .cel 2])) (e1 : M0[1]? = some (.lst rows)) (e2 : M0[2]? = some (.lst bys)) (l1 : rows.length ≤ 1000) (l2 : bys.length ≤ 1000) (x4 x5 x6 x7 : Option D) :
    ∃ r', goRest (goRh hour M0.length x4 x5 x6 x7) (M0 ++ [cR F.1, cB F.2]) = some (.nx r', ((M0 ++ [Cell.dead, Cell.dead]).set 1 (.lst (rows ++ [dR F.1]))).set 2 (.lst (bys ++ [dBd F.2]))) := by
  have f1 : sFrzD 3 (goRh hour M0.length x4 x5 x6 x7) (M0 ++ [cR F.1, cB F.2]) = some (.nx ((goRh hour M0.length x4 x5 x6 x7).set 3 (some (dBd F.2))), M0 ++ [cR F.1, Cell.dead]) := by
    have g := two_get2 (M0 := M0) (a := cR F.1) (b := cB F.2)
    have z := two_set2 (M0 := M0) (a := cR F.1) (b := cB F.2) (c := .dead)
    unfold sFrzD
    show (match (M0 ++ [cR F.1, cB F.2])[M0.length + 1]? with | some (.dic ks ds) => some (Out.nx ((goRh hour M0.length x4 x5 x6 x7).set 3 (some (.dic ks ds))), (M0 ++ [cR F.1, cB F.2]).set (M0.length + 1) .dead) | _ => none) = _
    rw [g, z]
    rfl
  have f2 : sFrzD 2 ((goRh hour M0.length x4 x5 x6 x7).set 3 (some (dBd F.2))) (M0 ++ [cR F.1, Cell.dead]) = some (.nx (((goRh hour M0.length x4 x5 x6 x7).set 3 (some (dBd F.2))).set 2 (some (dR F.1))), M0 ++ [Cell.dead, Cell.dead]) := by
    have g := two_get1 (M0 := M0) (a := cR F.1) (b := .dead)
    have z := two_set1 (M0 := M0) (a := cR F.1) (b := .dead) (c := .dead)
    unfold sFrzD
    show (match (M0 ++ [cR F.1, Cell.dead])[M0.length]? with | some (.dic ks ds) => some (Out.nx (((goRh hour M0.length x4 x5 x6 x7).set 3 (some (dBd F.2))).set 2 (some (.dic ks ds))), (M0 ++ [cR F.1, Cell.dead]).set M0.length .dead) | _ => none) = _
    rw [g, z]
    rfl
  have a0 := two_get0 (a := Cell.dead) (b := Cell.dead) e0
  have a1 := two_get0 (a := Cell.dead) (b := Cell.dead) e1
  have a2 := two_get0 (a := Cell.dead) (b := Cell.dead) e2
  have a3 : 2 < (M0 ++ [Cell.dead, Cell.dead]).length := (List.getElem?_eq_some_iff.mp a2).1
  generalize M0 ++ [Cell.dead, Cell.dead] = m1 at *
  have b0 : ∀ c, (m1.set 1 c)[0]? = m1[0]? := fun c => by rw [List.getElem?_set_ne (by decide)]
  have b2 : ∀ c, (m1.set 1 c)[2]? = m1[2]? := fun c => by rw [List.getElem?_set_ne (by decide)]
  have q1 : rows.length < 100000 := by omega
  have q2 : bys.length < 100000 := by omega
  unfold goRest
  refine ⟨((goRh hour M0.length x4 x5 x6 x7).set 3 (some (dBd F.2))).set 2 (some (dR F.1)), ?_⟩
  rw [v_seq, f1]
  show sSeq (sFrzD 2) _ _ _ = _
  rw [v_seq, f2]
  show sSeq (sDrop _) _ _ _ = _
  simp [goRh, a0, a1, a2, b0, b2, q1, q2, isCell]
theorem go_on_ev {h : Hou} (H : HouOk h) {M0 : Mu} {hour h0 : Int} {rows bys : List D} {R : Row1} (e0 : M0[0]? = some (.ins 1 [.ins 0 (hF h), .int h0, .cel 1, .cel 2])) (e1 : M0[1]? = some (.lst rows)) (e2 : M0[2]? = some (.lst bys)) (er : atI rows (-1) = some (dR R)) (kR : RowOk h R) (l1 : rows.length ≤ 1000) (l2 : bys.length ≤ 1000) :
    m_Search_go_on [.cel 0, .int hour] M0 = some (.ok .non, ((M0 ++ [Cell.dead, Cell.dead]).set 1 (.lst (rows ++ [dR (h.goOn hour R).1]))).set 2 (.lst (bys ++ [dBd (h.goOn hour R).2]))) ∧ RowOk h (h.goOn hour R).1 ∧ RowOk h (h.goOn hour R).2 := by
  have z1 : 0 ≤ h.zones := by have := H.z1; omega
  have lR := kR.len z1 H.z4 H.p4
  have em : (M0 ++ [Cell.dic [] []]) ++ [Cell.dic [] []] = M0 ++ [cR (([], []) : Row1 × Row2).1, cB (([], []) : Row1 × Row2).2] := by simp [cR, cB]
  have en : (M0 ++ [Cell.dic [] []]).length = M0.length + 1 := by simp
  have body : m_Search_go_on [.cel 0, .int hour] M0 = fin (thenS (sFor (mItems (mCB (pureF sortDD) (mCons (mOp ixD (mFld 1 2 (mVar 0)) (mNeg (mC (.int 1)))) (mNil)))) (tNm 4) goIn (goRh hour M0.length none none none none) (M0 ++ [cR (([], []) : Row1 × Row2).1, cB (([], []) : Row1 × Row2).2])) goRest) := by
    rw [← em]
    unfold m_Search_go_on goIn goRest goB goRh
    rw [← en]
    rfl
  have ne : ∀ st ∈ R.map (·.1), st ≠ [] := fun st hst z => by
    have := (kR.st st hst).len
    have p1 := H.p1
    rw [z] at this
    simp at this
    omega
  have hi : mItems (mCB (pureF sortDD) (mCons (mOp ixD (mFld 1 2 (mVar 0)) (mNeg (mC (.int 1)))) (mNil))) (goRh hour M0.length none none none none) (M0 ++ [cR (([], []) : Row1 × Row2).1, cB (([], []) : Row1 × Row2).2])
      = some (.ok ((srtT (R.map (·.1))).map dT), M0 ++ [cR (([], []) : Row1 × Row2).1, cB (([], []) : Row1 × Row2).2]) := by
    have f0 := two_get0 (a := cR (([], []) : Row1 × Row2).1) (b := cB (([], []) : Row1 × Row2).2) e0
    have f1 := two_get0 (a := cR (([], []) : Row1 × Row2).1) (b := cB (([], []) : Row1 × Row2).2) e1
    have es : ∀ mu : Mu, sortDD mu [dR R] = some (.lst ((srtT (R.map (·.1))).map fun ns => .tup (ns.map .int))) := fun mu => by
      show (if (R.map (·.1)).all (fun k => !k.isEmpty) = true then _ else _) = _
      rw [if_pos]
      rw [List.all_eq_true]
      intro k hk
      have := ne k hk
      cases k with
      | nil => exact absurd rfl this
      | cons a k => rfl
    generalize M0 ++ [cR (([], []) : Row1 × Row2).1, cB (([], []) : Row1 × Row2).2] = m1 at *
    simp [goRh, f0, f1, er, es, dI, itemsOf]
  rw [body]
  have := seq_fold (rest := goRest) (f := dT) (j := 4) (b := goIn) (ds := srtT (R.map (·.1))) (h.candsAt hour R) (fun F rh mu => RowOk h F.1 ∧ RowOk h F.2 ∧ mu = M0 ++ [cR F.1, cB F.2] ∧ ∃ x4 x5 x6 x7, rh = goRh hour M0.length x4 x5 x6 x7) ([], []) hi ⟨RowOk.nil, RowOk.nil, rfl, _, _, _, _, rfl⟩ ?_
    (fun o => fin o = some (.ok .non, ((M0 ++ [Cell.dead, Cell.dead]).set 1 (.lst (rows ++ [dR (h.goOn hour R).1]))).set 2 (.lst (bys ++ [dBd (h.goOn hour R).2]))) ∧ RowOk h (h.goOn hour R).1 ∧ RowOk h (h.goOn hour R).2) ?_
  · exact this
  · rintro st hst F _ _ ⟨k1, k2, rfl, x4, x5, x6, x7, rfl⟩
    have hm := srtT_mem.mp hst
    obtain ⟨y5, y6, y7, q1, q2, q3⟩ := inner_ev (hour := hour) H e0 e1 er (kR.st st hm) hm k1 k2 x5 x6 x7
    exact ⟨_, _, q1, q2, q3, rfl, _, _, _, _, rfl⟩
  · rintro _ _ ⟨k1, k2, rfl, x4, x5, x6, x7, rfl⟩
    obtain ⟨r', q⟩ := rest_ev (hour := hour) (F := h.goOn hour R) e0 e1 e2 l1 l2 x4 x5 x6 x7
    refine ⟨?_, k1, k2⟩
    show fin (goRest _ (M0 ++ [cR (h.goOn hour R).1, cB (h.goOn hour R).2])) = _
    rw [q]
    rfl
end Eb

/-! Eb: all rows. -/
namespace Eb
open PySem L2
def Hou.rowAt (h : Hou) (hour : Int) (st : List Int) : Nat → Row1
  | 0 => [(st, 0)]
  | i + 1 => (h.goOn (hour + i) (h.rowAt hour st i)).1
def Hou.byAt (h : Hou) (hour : Int) (st : List Int) : Nat → D
  | 0 => .dic [st] [.non]
  | i + 1 => dBd (h.goOn (hour + i) (h.rowAt hour st i)).2
def Hou.rowsD (h : Hou) (hour : Int) (st : List Int) (n : Nat) : List D := (List.range n).map fun j => dR (h.rowAt hour st j)
def Hou.bysD (h : Hou) (hour : Int) (st : List Int) (n : Nat) : List D := (List.range n).map (h.byAt hour st)
theorem rowsD_succ {h : Hou} {hour : Int} {st : List Int} {n : Nat} : h.rowsD hour st (n + 1) = h.rowsD hour st n ++ [dR (h.rowAt hour st n)] := by
  unfold Hou.rowsD
  rw [List.range_succ, List.map_append]
  rfl
theorem bysD_succ {h : Hou} {hour : Int} {st : List Int} {n : Nat} : h.bysD hour st (n + 1) = h.bysD hour st n ++ [h.byAt hour st n] := by
  unfold Hou.bysD
  rw [List.range_succ, List.map_append]
  rfl
theorem rowOk_one {h : Hou} {st : List Int} {v : Int} (k : Stat h st) : RowOk h [(st, v)] := ⟨by simp, fun s hs => by
  have : s = st := by simpa using hs
  rw [this]
  exact k⟩
theorem atI_last {α : Type} {l : List α} {a : α} : atI (l ++ [a]) (-1) = some a := by
  have : ixN (l.length + 1) (-1) = some l.length := by
    unfold ixN
    simp
    omega
  simp [atI, this]
theorem s_init_ev {h : Hou} (H : HouOk h) {hour : Int} {st : List Int} (k : Stat h st) (h0 : 0 ≤ hour) (n : Nat) (hn : h.hours = hour + n) (h8 : h.hours ≤ 8) :
    ∃ mu', m_Search_init [.cel 0, .ins 0 (hF h), .int hour, dT st] [.ins 1 []] = some (.ok .non, mu') ∧ mu'[0]? = some (.ins 1 [.ins 0 (hF h), .int hour, .cel 1, .cel 2]) ∧ mu'[1]? = some (.lst (h.rowsD hour st (n + 1))) ∧ mu'[2]? = some (.lst (h.bysD hour st (n + 1))) ∧ ∀ i ≤ n, RowOk h (h.rowAt hour st i) := by
  let rh : Rho := [some (.cel 0), some (.ins 0 (hF h)), some (.int hour), some (dT st), none]
  let rh1 : Option D → Rho := fun x => [some (.cel 0), some (.ins 0 (hF h)), some (.int hour), some (dT st), x]
  let m3 : Mu := [.ins 1 [.ins 0 (hF h), .int hour, .cel 1, .cel 2], .lst (h.rowsD hour st 1), .lst (h.bysD hour st 1)]
  have hi : mRng2 (mCons (mVar 2) (mCons (mFld 0 1 (mVar 1)) (mNil))) (rh1 none) m3 = some (.ok ((List.range n).map fun (i : Nat) => D.int (hour + i)), m3) := by
    have e : rng2 [.int hour, .int h.hours] = some ((List.range n).map fun (i : Nat) => D.int (hour + i)) := by
      show (if _ then some (rngD hour (h.hours - hour).toNat) else none) = _
      rw [if_pos (by omega), show (h.hours - hour).toNat = n by omega]
      rfl
    have e2 : (hF h)[1]? = some (.int h.hours) := rfl
    simp [rh1, e, e2]
  obtain ⟨r', mu', q1, q2, q3, q4, q5, q6⟩ := for_inv (ds := List.range n) (f := fun (i : Nat) => D.int (hour + i)) (j := 4) (b := sDrop (mMeth 1 m_Search_go_on (mVar 0) (mCons (mVar 4) (mNil)))) (rh := rh1 none) (mu := m3) (mu1 := m3)
    (fun i rh mu => (∃ x, rh = rh1 x) ∧ mu[0]? = some (.ins 1 [.ins 0 (hF h), .int hour, .cel 1, .cel 2]) ∧ mu[1]? = some (.lst (h.rowsD hour st (i + 1))) ∧ mu[2]? = some (.lst (h.bysD hour st (i + 1))) ∧ ∀ j ≤ i, RowOk h (h.rowAt hour st j)) hi ⟨⟨_, rfl⟩, rfl, rfl, rfl, fun j hj => by
      have : j = 0 := by omega
      rw [this]
      exact rowOk_one k⟩ (by
      rintro i a ha _ mu ⟨⟨x, rfl⟩, e0, e1, e2, kk⟩
      obtain ⟨hin, rfl⟩ : i < n ∧ i = a := by
        have := List.getElem?_eq_some_iff.mp ha
        obtain ⟨hl, e⟩ := this
        rw [List.length_range] at hl
        rw [List.getElem_range] at e
        exact ⟨hl, e⟩
      obtain ⟨g1, g2, g3⟩ := go_on_ev (hour := hour + (i : Int)) H e0 e1 e2 (by rw [rowsD_succ]; exact atI_last) (kk i (Nat.le_refl _)) (by simp [Hou.rowsD]; omega) (by simp [Hou.bysD]; omega)
      refine ⟨_, ((mu ++ [Cell.dead, Cell.dead]).set 1 (.lst (h.rowsD hour st (i + 2)))).set 2 (.lst (h.bysD hour st (i + 2))), ?_, ⟨some (.int (hour + i)), rfl⟩, ?_, ?_, ?_, fun j hj => ?_⟩
      · have f0 : insOf mu (.cel 0) = some (1, _) := insOf_c e0
        have g1' : m_Search_go_on [.cel 0, .int (hour + (i : Int))] mu = some (.ok .non, ((mu ++ [Cell.dead, Cell.dead]).set 1 (.lst (h.rowsD hour st (i + 2)))).set 2 (.lst (h.bysD hour st (i + 2)))) := by
          rw [g1, rowsD_succ (n := i + 1), bysD_succ (n := i + 1)]
          rfl
        simp [rh1, e0, g1']
      · rw [List.getElem?_set_ne (by decide), List.getElem?_set_ne (by decide)]
        exact two_get0 e0
      · rw [List.getElem?_set_ne (by decide), List.getElem?_set_self]
        have := (List.getElem?_eq_some_iff.mp e1).1
        rw [List.length_append]; omega
      · rw [List.getElem?_set_self]
        have := (List.getElem?_eq_some_iff.mp e2).1
        rw [List.length_set, List.length_append]; omega
      · by_cases hj' : j ≤ i
        · exact kk j hj'
        · have : j = i + 1 := by omega
          rw [this]
          exact g2)
  rw [List.length_range] at q4 q5 q6
  refine ⟨mu', ?_, q3, q4, q5, q6⟩
  have ek := keyOf_I st
  have em : m_Search_init [.cel 0, .ins 0 (hF h), .int hour, dT st] [.ins 1 []] = fin (sFor (mRng2 (mCons (mVar 2) (mCons (mFld 0 1 (mVar 1)) (mNil)))) (tNm 4) (sDrop (mMeth 1 m_Search_go_on (mVar 0) (mCons (mVar 4) (mNil)))) (rh1 none) m3) := by
    simp [m_Search_init, sFldM, stF, mLstC, mDic1, ek, rh1, m3, -v_for]
    rfl
  rw [em, q1]
  rfl
end Eb

/-! Eb: the object frozen; the table told. -/
namespace Eb
open PySem L2
def Hou.dSr (h : Hou) (hour : Int) (st : List Int) (n : Nat) : D := .ins 1 [.ins 0 (hF h), .int hour, .lst (h.rowsD hour st (n + 1)), .lst (h.bysD hour st (n + 1))]
theorem frzO_ev {h : Hou} {hour : Int} {rows bys : List D} {mu : Mu} (e0 : mu[0]? = some (.ins 1 [.ins 0 (hF h), .int hour, .cel 1, .cel 2])) (e1 : mu[1]? = some (.lst rows)) (e2 : mu[2]? = some (.lst bys)) :
    ∃ mu', frzO (.cel 0) mu = some (.ins 1 [.ins 0 (hF h), .int hour, .lst rows, .lst bys], mu') := by
  have a1 : ∀ c, (mu.set 0 c)[1]? = some (.lst rows) := fun c => by rw [List.getElem?_set_ne (by decide)]; exact e1
  have a2 : ∀ c c', ((mu.set 0 c).set 1 c')[2]? = some (.lst bys) := fun c c' => by rw [List.getElem?_set_ne (by decide), List.getElem?_set_ne (by decide)]; exact e2
  refine ⟨((mu.set 0 .dead).set 1 .dead).set 2 .dead, ?_⟩
  show (match mu[0]? with | some (.ins c ds) => (frzAll ds (mu.set 0 .dead)).map fun (p : List D × Mu) => (D.ins c p.1, p.2) | _ => none) = _
  rw [e0]
  have f1 : frzD (.cel 1) (mu.set 0 .dead) = some (.lst rows, (mu.set 0 .dead).set 1 .dead) := by
    show (match (mu.set 0 Cell.dead)[1]? with | some (.lst ds) => some (D.lst ds, (mu.set 0 Cell.dead).set 1 .dead) | some (.ins c ds) => some (D.ins c ds, (mu.set 0 Cell.dead).set 1 .dead) | _ => none) = _
    rw [a1]
  have f2 : frzD (.cel 2) ((mu.set 0 .dead).set 1 .dead) = some (.lst bys, ((mu.set 0 .dead).set 1 .dead).set 2 .dead) := by
    show (match ((mu.set 0 Cell.dead).set 1 .dead)[2]? with | some (.lst ds) => some (D.lst ds, ((mu.set 0 Cell.dead).set 1 .dead).set 2 .dead) | some (.ins c ds) => some (D.ins c ds, ((mu.set 0 Cell.dead).set 1 .dead).set 2 .dead) | _ => none) = _
    rw [a2]
  have f3 : frzD (.ins 0 (hF h)) (mu.set 0 .dead) = some (.ins 0 (hF h), mu.set 0 .dead) := rfl
  have f4 : frzD (.int hour) (mu.set 0 .dead) = some (.int hour, mu.set 0 .dead) := rfl
  simp [frzAll, f1, f2, f3, f4]
def tabRow (L : Row1) : D := .lst ((srtT (L.map (·.1))).map fun s => .tup [dT s, .int ((getR L s).getD 0)])
theorem sortDD_ev {h : Hou} (p1 : 1 ≤ h.people.length) {L : Row1} (k : RowOk h L) (mu : Mu) : sortDD mu [dR L] = some (.lst ((srtT (L.map (·.1))).map dT)) := by
  show (if (L.map (·.1)).all (fun k => !k.isEmpty) = true then _ else _) = _
  have : (L.map (·.1)).all (fun k => !k.isEmpty) = true := by
    rw [List.all_eq_true]
    intro s hs
    have := (k.st s hs).len
    cases s with
    | nil => simp at this; omega
    | cons a s => rfl
  rw [if_pos this]
  try rfl
theorem table_ev {h : Hou} (H : HouOk h) {hour : Int} {st : List Int} {n : Nat} (hn : n ≤ 1000) (k : ∀ i ≤ n, RowOk h (h.rowAt hour st i)) (mu : Mu) :
    m_Search_table [h.dSr hour st n] mu = some (.ok (.lst ((List.range (n + 1)).map fun j => tabRow (h.rowAt hour st j))), mu) := by
  have z1 : 0 ≤ h.zones := by have := H.z1; omega
  unfold m_Search_table
  simp [Hou.dSr]
  rw [lc_ev (ds := List.range (n + 1)) (f := fun j => dR (h.rowAt hour st j)) (fun _ => true) (fun j => tabRow (h.rowAt hour st j)) ?_ ?_ ?_ ?_]
  · simp
  · simp [Hou.rowsD, itemsOf]
  · simp; omega
  · intro j hj
    simp
  · intro j hj _
    have kj := k j (by have := List.mem_range.mp hj; omega)
    have es := fun mu => sortDD_ev H.p1 kj mu
    have ll := kj.len z1 H.z4 H.p4
    generalize h.rowAt hour st j = L at *
    rw [lc_ev (ds := srtT (L.map (·.1))) (f := dT) (fun _ => true) (fun s => .tup [dT s, .int ((getR L s).getD 0)]) ?_ ?_ ?_ ?_]
    · simp [tabRow]
    · simp [wipeR, es, itemsOf]
    · rw [(srtT_perm _).length_eq, List.length_map]; omega
    · intro s hs
      simp
    · intro s hs _
      have hm := srtT_mem.mp hs
      obtain ⟨v, hv⟩ : ∃ v, getR L s = some v := Option.isSome_iff_exists.mp ((get_some s L).mpr hm)
      have d1 := fun mu => dgetR_ev (mu := mu) (L := L) (st := s)
      simp [wipeR, d1, hv]
end Eb

/-! Eb: the best. -/
namespace Eb
open PySem L2
open Classical in
theorem same_no {x y : D} (h : ¬ x = y) : same x y = false := by
  unfold same
  exact decide_eq_false h
/-- (goings, how many hours, state) -/
abbrev Key3 := Int × Nat × List Int
def dK : Option Key3 → D
  | none => .non
  | some (v, a, s) => .tup [.int v, .int (a : Int), dT s]
def ltK (x y : Key3) : Bool := lt3B x.1 y.1 (x.2.1 : Int) (y.2.1 : Int) (decide (x.2.2 = y.2.2)) x.2.2 y.2.2
def Hou.best1 (h : Hou) (L : Row1) (at_ : Nat) (f : Option Key3) (s : List Int) : Option Key3 :=
  if (h.met s && (match f with | none => true | some g => ltK ((getR L s).getD 0, at_, s) g)) = true then some ((getR L s).getD 0, at_, s) else f
def Hou.bestRow (h : Hou) (hour : Int) (st : List Int) (f : Option Key3) (at_ : Nat) : Option Key3 := (srtT ((h.rowAt hour st at_).map (·.1))).foldl (h.best1 (h.rowAt hour st at_) at_) f
def Hou.best (h : Hou) (hour : Int) (st : List Int) (n : Nat) : Option Key3 := (List.range (n + 1)).foldl (h.bestRow hour st) none
theorem lt3_ev {mu : Mu} {x y : Key3} : lt3D mu (dK (some x)) (dK (some y)) = some (.bl (ltK x y)) := by
  obtain ⟨v, a, s⟩ := x
  obtain ⟨w, b, t⟩ := y
  have h1 : intsOf (dI s) = some s := keyOf_I s
  have h2 : intsOf (dI t) = some t := keyOf_I t
  have h3 : eqB mu (.tup (dI s)) (.tup (dI t)) = some (decide (s = t)) := by
    rw [eqB_pl (pl_tI s) (pl_tI t)]
    by_cases e : s = t
    · rw [e]
      unfold same
      simp
    · have : ¬ D.tup (dI s) = D.tup (dI t) := fun z => e (by
        have h4 := congrArg keyOf z
        have h5 : keyOf (.tup (dI s)) = some s := keyOf_I s
        have h6 : keyOf (.tup (dI t)) = some t := keyOf_I t
        rw [h5, h6] at h4
        exact Option.some.inj h4)
      rw [same_no this, decide_eq_false e]
  show (match intsOf (dI s), intsOf (dI t), eqB mu (.tup (dI s)) (.tup (dI t)) with | some ns, some ms, some b' => some (D.bl (lt3B v w a b b' ns ms)) | _, _, _ => none) = _
  rw [h1, h2, h3]
  rfl
def beRh (sr : D) (f : Option Key3) (x2 x3 x4 : Option D) : Rho := [some sr, some (dK f), x2, x3, x4]
def beB : MS := (sSeq (sAsg (mTup (mCons (mOp dgetD (mOp ixD (mFld 1 2 (mVar 0)) (mVar 2)) (mVar 3)) (mCons (mVar 2) (mCons (mVar 3) (mNil))))) (tNm 4)) (sIf (mAnd (mTest (mCall (mPure m_is_met) (mCons (mFld 1 0 (mVar 0)) (mCons (mVar 3) (mNil))))) (mOr (mTest (mOp isD (mVar 1) (mC .non))) (mTest (mOp lt3D (mVar 4) (mVar 1))))) (sAsg (mVar 4) (tNm 1)) (sSkip)))
theorem best1_ev {h : Hou} (H : HouOk h) {hour : Int} {st : List Int} {n i : Nat} (hi : i ≤ n) (k : RowOk h (h.rowAt hour st i)) {s : List Int} (hs : s ∈ (h.rowAt hour st i).map (·.1)) (f : Option Key3) (x4 : Option D) (mu : Mu) :
    ∃ x4', beB (beRh (h.dSr hour st n) f (some (.int (i : Int))) (some (dT s)) x4) mu = some (.nx (beRh (h.dSr hour st n) (h.best1 (h.rowAt hour st i) i f s) (some (.int (i : Int))) (some (dT s)) x4'), mu) := by
  have er : ixD mu (.lst (h.rowsD hour st (n + 1))) (.int (i : Int)) = some (dR (h.rowAt hour st i)) := by
    show atI _ _ = _
    rw [atI_nat]
    unfold Hou.rowsD
    rw [List.getElem?_map, List.getElem?_range (by omega)]
    rfl
  obtain ⟨v, hv⟩ : ∃ v, getR (h.rowAt hour st i) s = some v := Option.isSome_iff_exists.mp ((get_some s _).mpr hs)
  have d1 := dgetR_ev (mu := mu) (L := h.rowAt hour st i) (st := s)
  rw [hv] at d1
  have m1 := fun mu : Mu => pure_of (f := m_is_met) (mu := mu) (by simp) (is_met_ev (k.st s hs).len H.p4 []) (by simp)
  refine ⟨some (dK (some (v, i, s))), ?_⟩
  have l1 : ∀ g : Key3, lt3D mu (.tup [.int v, .int (i : Int), dT s]) (dK (some g)) = some (.bl (ltK (v, i, s) g)) := fun g => lt3_ev (x := (v, i, s)) (y := g)
  unfold Hou.best1
  rw [hv]
  cases f with
  | none =>
    cases hm : h.met s with
    | true => simp [beB, beRh, Hou.dSr, er, d1, m1, hm, dK]
    | false => simp [beB, beRh, Hou.dSr, er, d1, m1, hm, dK]
  | some g =>
    have l2 := l1 g
    have nn : nonB (dK (some g)) = false := rfl
    have dk : dK (some (v, i, s)) = .tup [.int v, .int (i : Int), dT s] := rfl
    cases hm : h.met s with
    | true =>
      cases hl : ltK (v, i, s) g with
      | true =>
        rw [hl] at l2
        simp [beB, beRh, Hou.dSr, er, d1, m1, hm, hl, l2, nn, dk]
      | false =>
        rw [hl] at l2
        simp only [hl, Bool.and_false, Bool.false_eq_true, if_false, Option.getD_some]
        simp [beB, beRh, Hou.dSr, er, d1, m1, hm, l2, nn, dk]
    | false =>
      simp only [Bool.false_and, Bool.false_eq_true, if_false]
      simp [beB, beRh, Hou.dSr, er, d1, m1, hm, nn, dk]
theorem bestRow_ev {h : Hou} (H : HouOk h) {hour : Int} {st : List Int} {n i : Nat} (hi : i ≤ n) (k : RowOk h (h.rowAt hour st i)) (f : Option Key3) (x3 x4 : Option D) (mu : Mu) :
    ∃ y3 y4, sFor (mItems (mCB (pureF sortDD) (mCons (mOp ixD (mFld 1 2 (mVar 0)) (mVar 2)) (mNil)))) (tNm 3) beB (beRh (h.dSr hour st n) f (some (.int (i : Int))) x3 x4) mu = some (.nx (beRh (h.dSr hour st n) (h.bestRow hour st f i) (some (.int (i : Int))) y3 y4), mu) := by
  have er : ixD mu (.lst (h.rowsD hour st (n + 1))) (.int (i : Int)) = some (dR (h.rowAt hour st i)) := by
    show atI _ _ = _
    rw [atI_nat]
    unfold Hou.rowsD
    rw [List.getElem?_map, List.getElem?_range (by omega)]
    rfl
  have es := sortDD_ev H.p1 k mu
  have hit : mItems (mCB (pureF sortDD) (mCons (mOp ixD (mFld 1 2 (mVar 0)) (mVar 2)) (mNil))) (beRh (h.dSr hour st n) f (some (.int (i : Int))) x3 x4) mu = some (.ok ((srtT ((h.rowAt hour st i).map (·.1))).map dT), mu) := by
    simp [beRh, Hou.dSr, er, es, itemsOf]
  obtain ⟨r', mu', q1, rfl, y3, y4, rfl⟩ := loop_fold (ds := srtT ((h.rowAt hour st i).map (·.1))) (f := dT) (j := 3) (b := beB) (h.best1 (h.rowAt hour st i) i) (fun f rh mu' => mu' = mu ∧ ∃ x3 x4, rh = beRh (h.dSr hour st n) f (some (.int (i : Int))) x3 x4)
    (by
      rintro s hs f _ m ⟨em, x3, x4, rfl⟩
      obtain ⟨y, hy⟩ := best1_ev (hour := hour) (st := st) (n := n) H hi k (srtT_mem.mp hs) f x4 m
      exact ⟨_, m, hy, em, _, _, rfl⟩) (s := f) (rh := beRh (h.dSr hour st n) f (some (.int (i : Int))) x3 x4) (mu := mu) ⟨rfl, _, _, rfl⟩
  refine ⟨y3, y4, ?_⟩
  show bindS _ (fun ds => loopS (tNm 3) beB ds) _ _ = _
  rw [bindS_ok hit]
  exact q1
end Eb

/-! Eb: the best of all rows. -/
namespace Eb
open PySem L2
theorem be_it {a b c : D} {rows : List D} {f : Option Key3} {x2 x3 x4 : Option D} (hl : rows.length ≤ 1000000) (mu : Mu) :
    mRng1 (mCons (mCB (pureF lenD) (mCons (mFld 1 2 (mVar 0)) (mNil))) (mNil)) (beRh (.ins 1 [a, b, .lst rows, c]) f x2 x3 x4) mu = some (.ok (dN (List.range rows.length)), mu) := by
  have e : rng1 [.int (rows.length : Int)] = some (dN (List.range rows.length)) := r_1 hl
  simp [beRh, e]
def beOuter : MS := sFor (mRng1 (mCons (mCB (pureF lenD) (mCons (mFld 1 2 (mVar 0)) (mNil))) (mNil))) (tNm 2) (sFor (mItems (mCB (pureF sortDD) (mCons (mOp ixD (mFld 1 2 (mVar 0)) (mVar 2)) (mNil)))) (tNm 3) beB)
theorem be_body (sr : D) (mu : Mu) : m_Search_best [sr] mu = fin (thenS (beOuter (beRh sr none none none none) mu) (sRet (mVar 1))) := rfl
theorem be_ret (sr : D) (f : Option Key3) (x2 x3 x4 : Option D) (mu : Mu) : fin (sRet (mVar 1) (beRh sr f x2 x3 x4) mu) = some (.ok (dK f), mu) := rfl
theorem be_len {h : Hou} {hour : Int} {st : List Int} {n : Nat} : (h.rowsD hour st (n + 1)).length = n + 1 := by
  unfold Hou.rowsD
  rw [List.length_map, List.length_range]
theorem best_gen {h : Hou} (H : HouOk h) {hour : Int} {st : List Int} {n m : Nat} (em : n + 1 = m) (hn : m ≤ 1000) (k : ∀ i ≤ n, RowOk h (h.rowAt hour st i)) (mu : Mu) :
    m_Search_best [h.dSr hour st n] mu = some (.ok (dK ((List.range m).foldl (h.bestRow hour st) none)), mu) := by
  have hi : mRng1 (mCons (mCB (pureF lenD) (mCons (mFld 1 2 (mVar 0)) (mNil))) (mNil)) (beRh (h.dSr hour st n) none none none none) mu = some (.ok ((List.range m).map fun (i : Nat) => D.int (i : Int)), mu) := by
    have l : (h.rowsD hour st (n + 1)).length = m := by rw [be_len, em]
    have := be_it (a := .ins 0 (hF h)) (b := .int hour) (c := .lst (h.bysD hour st (n + 1))) (rows := h.rowsD hour st (n + 1)) (f := none) (x2 := none) (x3 := none) (x4 := none) (by rw [l]; exact Nat.le_trans hn (by decide)) mu
    rw [l] at this
    exact this
  rw [be_body]
  refine seq_fold (f := fun (i : Nat) => D.int (i : Int)) (j := 2) (h.bestRow hour st) (fun f rh mu' => mu' = mu ∧ ∃ x2 x3 x4, rh = beRh (h.dSr hour st n) f x2 x3 x4) none hi ⟨rfl, _, _, _, rfl⟩ ?_ (fun o => fin o = some (.ok (dK ((List.range m).foldl (h.bestRow hour st) none)), mu)) ?_
  · rintro i hmem f _ m' ⟨rfl, x2, x3, x4, rfl⟩
    have hin : i ≤ n := by have := List.mem_range.mp hmem; omega
    obtain ⟨y3, y4, q⟩ := bestRow_ev (hour := hour) (st := st) H hin (k i hin) f x3 x4 m'
    exact ⟨_, m', q, rfl, _, _, _, rfl⟩
  · rintro _ m' ⟨rfl, x2, x3, x4, rfl⟩
    exact be_ret _ _ _ _ _ _
theorem best_ev {h : Hou} (H : HouOk h) {hour : Int} {st : List Int} {n : Nat} (hn : n ≤ 900) (k : ∀ i ≤ n, RowOk h (h.rowAt hour st i)) (mu : Mu) : m_Search_best [h.dSr hour st n] mu = some (.ok (dK (h.best hour st n)), mu) :=
  best_gen H rfl (by omega) k mu
end Eb

/-! Eb: what stands in the rows: the least of the candidates; whence. -/
namespace Eb
open PySem L2
/-- candidates (state, step, its number) -/
abbrev Cds := List Int → Stp → Int → Prop
structure Inv1 (h : Hou) (C : Cds) (F : Row1 × Row2) : Prop where
  why : ∀ x v, getR F.1 x = some v → ∃ st s, getR F.2 x = some (st, s) ∧ ∃ n, C st s n ∧ h.next st s = x ∧ v = n + h.goings s
  low : ∀ st s n, C st s n → ∃ w, getR F.1 (h.next st s) = some w ∧ w ≤ n + h.goings s
theorem Inv1.congr {h : Hou} {C C' : Cds} {F : Row1 × Row2} (k : Inv1 h C F) (e : ∀ st s n, C st s n ↔ C' st s n) : Inv1 h C' F :=
  ⟨fun x v hv => by
    obtain ⟨st, s, q1, n, q2, q3⟩ := k.why x v hv
    exact ⟨st, s, q1, n, (e _ _ _).mp q2, q3⟩, fun st s n hc => k.low st s n ((e _ _ _).mpr hc)⟩
theorem Inv1.cand {h : Hou} {C : Cds} {F : Row1 × Row2} (k : Inv1 h C F) (n : Int) (st : List Int) (s : Stp) : Inv1 h (fun st' s' n' => C st' s' n' ∨ (st' = st ∧ s' = s ∧ n' = n)) (h.cand n st F s) := by
  by_cases c : (match getR F.1 (h.next st s) with | none => true | some m => decide (n + h.goings s < m)) = true
  · have e : h.cand n st F s = (putR F.1 (h.next st s) (n + h.goings s), putR F.2 (h.next st s) (st, s)) := if_pos c
    rw [e]
    refine ⟨fun x v hv => ?_, fun st' s' n' hc => ?_⟩
    · rw [get_put] at hv
      rw [get_put]
      by_cases ex : h.next st s = x
      · rw [if_pos ex] at hv ⊢
        exact ⟨st, s, rfl, n, .inr ⟨rfl, rfl, rfl⟩, ex, (Option.some.inj hv).symm⟩
      · rw [if_neg ex] at hv ⊢
        obtain ⟨st', s', q1, n', q2, q3⟩ := k.why x v hv
        exact ⟨st', s', q1, n', .inl q2, q3⟩
    · rw [get_put]
      by_cases ex : h.next st s = h.next st' s'
      · rw [if_pos ex]
        refine ⟨_, rfl, ?_⟩
        rcases hc with hc | ⟨rfl, rfl, rfl⟩
        · obtain ⟨w, q1, q2⟩ := k.low st' s' n' hc
          rw [ex, q1] at c
          have := of_decide_eq_true c
          omega
        · exact Int.le_refl _
      · rw [if_neg ex]
        rcases hc with hc | ⟨rfl, rfl, rfl⟩
        · exact k.low st' s' n' hc
        · exact absurd rfl ex
  · have e : h.cand n st F s = F := if_neg c
    rw [e]
    refine ⟨fun x v hv => ?_, fun st' s' n' hc => ?_⟩
    · obtain ⟨st', s', q1, n', q2, q3⟩ := k.why x v hv
      exact ⟨st', s', q1, n', .inl q2, q3⟩
    · rcases hc with hc | ⟨rfl, rfl, rfl⟩
      · exact k.low st' s' n' hc
      · cases hg : getR F.1 (h.next st' s') with
        | none => rw [hg] at c; exact absurd rfl c
        | some m =>
          rw [hg] at c
          have : ¬ (n' + h.goings s' < m) := fun z => c (decide_eq_true z)
          exact ⟨m, rfl, by omega⟩
theorem Inv1.cands {h : Hou} (n : Int) (st : List Int) : ∀ (ss : List Stp) {C : Cds} {F : Row1 × Row2}, Inv1 h C F → Inv1 h (fun st' s' n' => C st' s' n' ∨ (st' = st ∧ s' ∈ ss ∧ n' = n)) (ss.foldl (h.cand n st) F)
  | [], C, F, k => k.congr fun st' s' n' => by simp
  | s :: ss, C, F, k => by
    have := Inv1.cands n st ss (k.cand n st s)
    refine this.congr fun st' s' n' => ?_
    rw [List.mem_cons]
    constructor
    · rintro ((q | ⟨q1, q2, q3⟩) | ⟨q1, q2, q3⟩)
      · exact .inl q
      · exact .inr ⟨q1, .inl q2, q3⟩
      · exact .inr ⟨q1, .inr q2, q3⟩
    · rintro (q | ⟨q1, q2 | q2, q3⟩)
      · exact .inl (.inl q)
      · exact .inl (.inr ⟨q1, q2, q3⟩)
      · exact .inr ⟨q1, q2, q3⟩
theorem Inv1.rows {h : Hou} (hour : Int) (R : Row1) : ∀ (l : List (List Int)) {C : Cds} {F : Row1 × Row2}, Inv1 h C F → Inv1 h (fun st' s' n' => C st' s' n' ∨ (st' ∈ l ∧ s' ∈ h.steps hour st' ∧ n' = (getR R st').getD 0)) (l.foldl (h.candsAt hour R) F)
  | [], C, F, k => k.congr fun st' s' n' => by simp
  | st :: l, C, F, k => by
    have := Inv1.rows hour R l (Inv1.cands ((getR R st).getD 0) st (h.steps hour st) k)
    refine this.congr fun st' s' n' => ?_
    rw [List.mem_cons]
    constructor
    · rintro ((q | ⟨q1, q2, q3⟩) | ⟨q1, q2, q3⟩)
      · exact .inl q
      · exact .inr ⟨.inl q1, q1 ▸ q2, q1 ▸ q3⟩
      · exact .inr ⟨.inr q1, q2, q3⟩
    · rintro (q | ⟨q1 | q1, q2, q3⟩)
      · exact .inl (.inl q)
      · exact .inl (.inr ⟨q1, q1 ▸ q2, q1 ▸ q3⟩)
      · exact .inr ⟨q1, q2, q3⟩
/-- the candidates out of a row -/
def Hou.cds (h : Hou) (hour : Int) (R : Row1) : Cds := fun st s n => getR R st = some n ∧ s ∈ h.steps hour st
theorem goOn_inv {h : Hou} (hour : Int) (R : Row1) : Inv1 h (h.cds hour R) (h.goOn hour R) := by
  have k0 : Inv1 h (fun _ _ _ => False) (([], []) : Row1 × Row2) := ⟨fun x v hv => (by cases hv), fun st s n hc => hc.elim⟩
  refine (Inv1.rows hour R (srtT (R.map (·.1))) k0).congr fun st s n => ?_
  rw [srtT_mem, ← get_some]
  unfold Hou.cds
  constructor
  · rintro (q | ⟨q1, q2, q3⟩)
    · exact q.elim
    · obtain ⟨m, hm⟩ := Option.isSome_iff_exists.mp q1
      rw [hm] at q3
      exact ⟨by rw [hm, q3]; rfl, q2⟩
  · rintro ⟨q1, q2⟩
    exact .inr ⟨by rw [q1]; rfl, q2, by rw [q1]; rfl⟩
/-! ### the least, as a word about a row alone -/
structure IsLeast (h : Hou) (C : Cds) (L : Row1) : Prop where
  why : ∀ x v, getR L x = some v → ∃ st s n, C st s n ∧ h.next st s = x ∧ v = n + h.goings s
  low : ∀ st s n, C st s n → ∃ w, getR L (h.next st s) = some w ∧ w ≤ n + h.goings s
theorem Inv1.least {h : Hou} {C : Cds} {F : Row1 × Row2} (k : Inv1 h C F) : IsLeast h C F.1 := ⟨fun x v hv => by
  obtain ⟨st, s, _, n, q⟩ := k.why x v hv
  exact ⟨st, s, n, q⟩, k.low⟩
theorem IsLeast.eq {h : Hou} {C : Cds} {L M : Row1} (k : IsLeast h C L) (m : IsLeast h C M) (x : List Int) : getR L x = getR M x := by
  cases hl : getR L x with
  | none =>
    cases hm : getR M x with
    | none => rfl
    | some v =>
      obtain ⟨st, s, n, q1, q2, _⟩ := m.why x v hm
      obtain ⟨w, q3, _⟩ := k.low st s n q1
      rw [q2, hl] at q3
      cases q3
  | some v =>
    obtain ⟨st, s, n, q1, q2, q3⟩ := k.why x v hl
    obtain ⟨w, q4, q5⟩ := m.low st s n q1
    rw [q2] at q4
    obtain ⟨st', s', n', r1, r2, r3⟩ := m.why x w q4
    obtain ⟨v', r4, r5⟩ := k.low st' s' n' r1
    rw [r2, hl] at r4
    have := Option.some.inj r4
    rw [q4]
    congr 1
    omega
/-! ### the plan to a state -/
def Hou.costOf (h : Hou) (ss : List Stp) : Int := (ss.map fun s => (h.goings s : Int)).sum
theorem costOf_snoc {h : Hou} (ss : List Stp) (s : Stp) : h.costOf (ss ++ [s]) = h.costOf ss + h.goings s := by simp [Hou.costOf]
def Hou.planTo (h : Hou) (hour : Int) (st : List Int) : Nat → List Int → List Stp
  | 0, _ => []
  | i + 1, x => match getR (h.goOn (hour + i) (h.rowAt hour st i)).2 x with
    | some p => h.planTo hour st i p.1 ++ [p.2]
    | none => []
theorem endOf_snoc {h : Hou} (ss : List Stp) (st : List Int) (s : Stp) : h.endOf st (ss ++ [s]) = h.next (h.endOf st ss) s := by simp [Hou.endOf]
theorem planTo_spec {h : Hou} (p4 : h.people.length ≤ 4) {hour : Int} {st : List Int} : ∀ (i : Nat) (x : List Int) (v : Int), getR (h.rowAt hour st i) x = some v →
    h.okW hour st (h.planTo hour st i x) ∧ h.endOf st (h.planTo hour st i x) = x ∧ h.costOf (h.planTo hour st i x) = v ∧ (h.planTo hour st i x).length = i
  | 0, x, v, hv => by
    have hv : (if st = x then some (0 : Int) else none) = some v := hv
    by_cases e : st = x
    · rw [if_pos e] at hv
      exact ⟨trivial, e, Option.some.inj hv, rfl⟩
    · rw [if_neg e] at hv
      cases hv
  | i + 1, x, v, hv => by
    obtain ⟨st', s, q1, n, ⟨q2, q3⟩, q4, q5⟩ := (goOn_inv (h := h) (hour + i) (h.rowAt hour st i)).why x v hv
    obtain ⟨r1, r2, r3, r4⟩ := planTo_spec p4 i st' n q2
    obtain ⟨ok, eb⟩ := steps_mem p4 q3
    have e : h.planTo hour st (i + 1) x = h.planTo hour st i st' ++ [s] := by
      show (match getR (h.goOn (hour + i) (h.rowAt hour st i)).2 x with | some p => h.planTo hour st i p.1 ++ [p.2] | none => []) = _
      rw [q1]
    rw [e]
    refine ⟨okW_snoc _ _ _ r1 ok (by rw [r2, r4]; exact eb), by rw [endOf_snoc, r2, q4], by rw [costOf_snoc, r3, q5], by simp [r4]⟩
theorem row_step {h : Hou} {hour : Int} {st : List Int} {i : Nat} {x : List Int} {v : Int} (hv : getR (h.rowAt hour st i) x = some v) {s : Stp} (hs : s ∈ h.steps (hour + i) x) :
    ∃ w, getR (h.rowAt hour st (i + 1)) (h.next x s) = some w ∧ w ≤ v + h.goings s := (goOn_inv (h := h) (hour + i) (h.rowAt hour st i)).low x s v ⟨hv, hs⟩
/-! ### the best -/
structure IsBest (h : Hou) (hour : Int) (st : List Int) (n : Nat) (f : Option Key3) : Prop where
  why : ∀ k, f = some k → k.2.1 ≤ n ∧ getR (h.rowAt hour st k.2.1) k.2.2 = some k.1 ∧ h.met k.2.2 = true
  low : ∀ i ≤ n, ∀ x v, getR (h.rowAt hour st i) x = some v → h.met x = true → ∃ k, f = some k ∧ k.1 ≤ v
theorem ltK_le {x y : Key3} (h : ltK x y = true) : x.1 ≤ y.1 := by
  unfold ltK lt3B at h
  by_cases c : x.1 = y.1
  · omega
  · simp [c] at h
    omega
theorem ltK_nle {x y : Key3} (h : ltK x y = false) : y.1 ≤ x.1 := by
  unfold ltK lt3B at h
  by_cases c : x.1 = y.1
  · omega
  · simp [c] at h
    omega
/-- who has been looked at -/
structure Best1 (h : Hou) (hour : Int) (st : List Int) (C : Nat → List Int → Prop) (f : Option Key3) : Prop where
  why : ∀ k, f = some k → C k.2.1 k.2.2 ∧ getR (h.rowAt hour st k.2.1) k.2.2 = some k.1 ∧ h.met k.2.2 = true
  low : ∀ i x v, C i x → getR (h.rowAt hour st i) x = some v → h.met x = true → ∃ k, f = some k ∧ k.1 ≤ v
theorem best1_cases {h : Hou} {L : Row1} {a : Nat} {f : Option Key3} {s : List Int} {v : Int} (hv : getR L s = some v) :
    (h.best1 L a f s = some (v, a, s) ∧ h.met s = true ∧ ∀ g, f = some g → ltK (v, a, s) g = true) ∨ (h.best1 L a f s = f ∧ (h.met s = true → ∃ g, f = some g ∧ ltK (v, a, s) g = false)) := by
  unfold Hou.best1
  rw [hv]
  cases hm : h.met s with
  | false => exact .inr ⟨rfl, fun z => by cases z⟩
  | true =>
    cases f with
    | none => exact .inl ⟨rfl, rfl, fun g z => by cases z⟩
    | some g =>
      cases hl : ltK (v, a, s) g with
      | true =>
        refine .inl ⟨?_, rfl, fun g' z => by cases z; exact hl⟩
        show (if (true && ltK (v, a, s) g) = true then some (v, a, s) else some g) = _
        rw [hl]
        rfl
      | false =>
        refine .inr ⟨?_, fun _ => ⟨g, rfl, hl⟩⟩
        show (if (true && ltK (v, a, s) g) = true then some (v, a, s) else some g) = _
        rw [hl]
        rfl
theorem Best1.one {h : Hou} {hour : Int} {st : List Int} {C : Nat → List Int → Prop} {f : Option Key3} (b : Best1 h hour st C f) (a : Nat) (s : List Int) (hs : s ∈ (h.rowAt hour st a).map (·.1)) :
    Best1 h hour st (fun i x => C i x ∨ (i = a ∧ x = s)) (h.best1 (h.rowAt hour st a) a f s) := by
  obtain ⟨v, hv⟩ : ∃ v, getR (h.rowAt hour st a) s = some v := Option.isSome_iff_exists.mp ((get_some s _).mpr hs)
  rcases best1_cases (h := h) (a := a) (f := f) hv with ⟨e, m, c⟩ | ⟨e, c⟩
  · rw [e]
    refine ⟨fun k hk => ?_, fun i x w hc hw hm => ?_⟩
    · cases (Option.some.inj hk)
      exact ⟨.inr ⟨rfl, rfl⟩, hv, m⟩
    · refine ⟨_, rfl, ?_⟩
      show v ≤ w
      rcases hc with hc | ⟨rfl, rfl⟩
      · obtain ⟨k, hk, hl⟩ := b.low i x w hc hw hm
        have := ltK_le (c k hk)
        have : v ≤ k.1 := this
        omega
      · rw [hv] at hw
        cases (Option.some.inj hw)
        exact Int.le_refl _
  · rw [e]
    refine ⟨fun k hk => ?_, fun i x w hc hw hm => ?_⟩
    · obtain ⟨q1, q2⟩ := b.why k hk
      exact ⟨.inl q1, q2⟩
    · rcases hc with hc | ⟨rfl, rfl⟩
      · exact b.low i x w hc hw hm
      · rw [hv] at hw
        cases (Option.some.inj hw)
        obtain ⟨g, hg, hl⟩ := c hm
        exact ⟨g, hg, ltK_nle hl⟩
theorem Best1.row {h : Hou} {hour : Int} {st : List Int} (a : Nat) : ∀ (l : List (List Int)) {C : Nat → List Int → Prop} {f : Option Key3}, (∀ s ∈ l, s ∈ (h.rowAt hour st a).map (·.1)) → Best1 h hour st C f →
    Best1 h hour st (fun i x => C i x ∨ (i = a ∧ x ∈ l)) (l.foldl (h.best1 (h.rowAt hour st a) a) f)
  | [], C, f, _, b => ⟨fun k hk => ⟨.inl (b.why k hk).1, (b.why k hk).2⟩, fun i x v hc => by
    rcases hc with hc | ⟨_, hc⟩
    · exact b.low i x v hc
    · cases hc⟩
  | s :: l, C, f, hl, b => by
    have := Best1.row a l (fun s hs => hl s (List.mem_cons_of_mem _ hs)) (b.one a s (hl s List.mem_cons_self))
    refine ⟨fun k hk => ?_, fun i x v hc => this.low i x v ?_⟩
    · obtain ⟨q1, q2⟩ := this.why k hk
      refine ⟨?_, q2⟩
      rcases q1 with (q | ⟨q1, q2⟩) | ⟨q1, q2⟩
      · exact .inl q
      · exact .inr ⟨q1, q2 ▸ List.mem_cons_self⟩
      · exact .inr ⟨q1, List.mem_cons_of_mem _ q2⟩
    · rcases hc with hc | ⟨q1, q2⟩
      · exact .inl (.inl hc)
      · rcases List.mem_cons.mp q2 with q2 | q2
        · exact .inl (.inr ⟨q1, q2⟩)
        · exact .inr ⟨q1, q2⟩
theorem Best1.rows {h : Hou} {hour : Int} {st : List Int} : ∀ m : Nat, Best1 h hour st (fun i x => i < m ∧ x ∈ (h.rowAt hour st i).map (·.1)) ((List.range m).foldl (h.bestRow hour st) none)
  | 0 => ⟨fun k hk => (by cases hk), fun i x v hc => absurd hc.1 (Nat.not_lt_zero _)⟩
  | m + 1 => by
    rw [List.range_succ, List.foldl_append]
    have b := Best1.row (h := h) (hour := hour) (st := st) m (srtT ((h.rowAt hour st m).map (·.1))) (fun s hs => srtT_mem.mp hs) (Best1.rows m)
    refine ⟨fun k hk => ?_, fun i x v hc => b.low i x v ?_⟩
    · obtain ⟨q1, q2⟩ := b.why k hk
      refine ⟨?_, q2⟩
      rcases q1 with ⟨q1, q3⟩ | ⟨q1, q3⟩
      · exact ⟨by omega, q3⟩
      · exact ⟨by omega, by rw [q1]; exact srtT_mem.mp q3⟩
    · by_cases c : i < m
      · exact .inl ⟨c, hc.2⟩
      · have : i = m := by omega
        exact .inr ⟨this, srtT_mem.mpr (this ▸ hc.2)⟩
theorem best_is {h : Hou} {hour : Int} {st : List Int} {n : Nat} : IsBest h hour st n (h.best hour st n) := by
  have b := Best1.rows (h := h) (hour := hour) (st := st) (n + 1)
  refine ⟨fun k hk => ?_, fun i hi x v hv hm => b.low i x v ⟨by omega, (get_some x _).mp (by rw [hv]; rfl)⟩ hv hm⟩
  obtain ⟨q1, q2⟩ := b.why k hk
  exact ⟨by omega, q2⟩
end Eb

/-! Eb: the plan to a state; the fewest. -/
namespace Eb
open PySem L2
theorem dgetB_ev {mu : Mu} {L : Row2} {x : List Int} : dgetD mu (dBd L) (dT x) = (getR L x).map fun p => D.tup [dT p.1, dS p.2] := by
  unfold dgetD
  rw [keyOf_I]
  exact dget_R (fun p : List Int × Stp => D.tup [dT p.1, dS p.2]) x L
def ptB : MS := (sSeq (sAsg (mOp dgetD (mOp ixD (mFld 1 3 (mVar 0)) (mVar 1)) (mVar 2)) (tTp 2 (tsCons (tNm 2) (tsCons (tNm 4) (tsNil))))) (sSeq (sDrop (mBM isCell appF (mVar 3) (mCons (mVar 4) (mNil)))) (sAsg (mOp subD (mVar 1) (mC (.int 1))) (tNm 1))))
def ptC : M Bool := mTest (mOp gtD (mVar 1) (mC (.int 0)))
def ptRh (sr : D) (i : Nat) (x : List Int) (k : Nat) (x4 : Option D) : Rho := [some sr, some (.int (i : Int)), some (dT x), some (.cel k), x4]
theorem pt1_ev {h : Hou} {hour : Int} {st : List Int} {n i : Nat} (hi : i + 1 ≤ n) {x : List Int} {p : List Int × Stp} (hp : getR (h.goOn (hour + i) (h.rowAt hour st i)).2 x = some p) {found : List Stp} (hl : found.length < 1000) (x4 : Option D) (M : Mu) :
    ptB (ptRh (h.dSr hour st n) (i + 1) x M.length x4) (M ++ [.lst (found.map dS)]) = some (.nx (ptRh (h.dSr hour st n) i p.1 M.length (some (dS p.2))), M ++ [.lst ((found ++ [p.2]).map dS)]) := by
  have er : ixD (M ++ [.lst (found.map dS)]) (.lst (h.bysD hour st (n + 1))) (.int ((i + 1 : Nat) : Int)) = some (dBd (h.goOn (hour + i) (h.rowAt hour st i)).2) := by
    show atI _ _ = _
    rw [atI_nat]
    unfold Hou.bysD
    rw [List.getElem?_map, List.getElem?_range (by omega)]
    rfl
  have d1 := dgetB_ev (mu := M ++ [.lst (found.map dS)]) (L := (h.goOn (hour + i) (h.rowAt hour st i)).2) (x := x)
  rw [hp] at d1
  have ll : found.length < 100000 := by omega
  have e1 : ((i + 1 : Nat) : Int) - 1 = (i : Int) := by omega
  have em : (found ++ [p.2]).map dS = found.map dS ++ [dS p.2] := by rw [List.map_append]; rfl
  rw [em]
  generalize (h.goOn (hour + i) (h.rowAt hour st i)).2 = L at *
  unfold ptRh
  generalize ((i + 1 : Nat) : Int) = j at *
  simp [ptB, Hou.dSr, er, d1, ll, e1]
theorem pt_loop {h : Hou} {hour : Int} {st : List Int} {n : Nat} (M : Mu) : ∀ (i : Nat) (m : Nat) (x : List Int) (v : Int) (found : List Stp) (x4 : Option D), i ≤ n → i < m → getR (h.rowAt hour st i) x = some v → found.length + i < 1000 →
    ∃ y z, loopW ptC ptB m (ptRh (h.dSr hour st n) i x M.length x4) (M ++ [.lst (found.map dS)]) = some (.nx (ptRh (h.dSr hour st n) 0 y M.length z), M ++ [.lst ((found ++ (h.planTo hour st i x).reverse).map dS)])
  | 0, m + 1, x, v, found, x4, _, _, _, _ => by
    refine ⟨x, x4, ?_⟩
    show loopW ptC ptB (m + 1) _ _ = some (.nx _, M ++ [.lst ((found ++ ([] : List Stp)).map dS)])
    rw [List.append_nil]
    have c : ptC (ptRh (h.dSr hour st n) 0 x M.length x4) (M ++ [.lst (found.map dS)]) = some (.ok false, M ++ [.lst (found.map dS)]) := by
      simp [ptC, ptRh]
    unfold loopW
    rw [bindS_ok c]
    rfl
  | i + 1, m + 1, x, v, found, x4, hn, hm, hv, hl => by
    obtain ⟨st', s, q1, n', ⟨q2, q3⟩, q4, q5⟩ := (goOn_inv (h := h) (hour + i) (h.rowAt hour st i)).why x v hv
    have e1 := pt1_ev (h := h) (hour := hour) (st := st) hn q1 (found := found) (by omega) x4 M
    have c : ptC (ptRh (h.dSr hour st n) (i + 1) x M.length x4) (M ++ [.lst (found.map dS)]) = some (.ok true, M ++ [.lst (found.map dS)]) := by
      have : (0 : Int) < ((i + 1 : Nat) : Int) := by omega
      unfold ptRh
      generalize ((i + 1 : Nat) : Int) = j at *
      simp [ptC, this]
    obtain ⟨y, z, e2⟩ := pt_loop (h := h) (hour := hour) (st := st) (n := n) M i m st' n' (found ++ [s]) (some (dS s)) (by omega) (by omega) q2 (by simp; omega)
    refine ⟨y, z, ?_⟩
    have ep : found ++ (h.planTo hour st (i + 1) x).reverse = (found ++ [s]) ++ (h.planTo hour st i st').reverse := by
      have : h.planTo hour st (i + 1) x = h.planTo hour st i st' ++ [s] := by
        show (match getR (h.goOn (hour + i) (h.rowAt hour st i)).2 x with | some p => h.planTo hour st i p.1 ++ [p.2] | none => []) = _
        rw [q1]
      rw [this, List.reverse_append, List.append_assoc]
      rfl
    rw [ep]
    unfold loopW
    rw [bindS_ok c]
    show (match ptB (ptRh (h.dSr hour st n) (i + 1) x M.length x4) (M ++ [.lst (found.map dS)]) with
      | some (.nx r, mu1) => loopW ptC ptB m r mu1
      | some (.ct r, mu1) => loopW ptC ptB m r mu1
      | some (.bk r, mu1) => some (.nx r, mu1)
      | o => o) = _
    rw [e1]
    exact e2
theorem plan_to_ev {h : Hou} {hour : Int} {st : List Int} {n i : Nat} (hi : i ≤ n) (h90 : i < 90) {x : List Int} {v : Int} (hv : getR (h.rowAt hour st i) x = some v) (M : Mu) :
    m_Search_plan_to [h.dSr hour st n, .int (i : Int), dT x] M = some (.ok (.lst ((h.planTo hour st i x).map dS)), M ++ [.dead]) := by
  obtain ⟨y, z, e⟩ := pt_loop (h := h) (hour := hour) (st := st) (n := n) M i 100 x v [] none hi (by omega) hv (by simp; omega)
  have body : m_Search_plan_to [h.dSr hour st n, .int (i : Int), dT x] M = fin (thenS (loopW ptC ptB 100 (ptRh (h.dSr hour st n) i x M.length none) (M ++ [.lst (([] : List Stp).map dS)])) (sSeq (sFrz 3) (sRet (mRevL (mVar 3))))) := by
    generalize h.dSr hour st n = sr
    simp [m_Search_plan_to, ptRh, -v_for]
    rfl
  rw [body, e]
  generalize h.dSr hour st n = sr
  simp [ptRh, mRevL, revD, lstOf]
end Eb

/-! Eb: the fewest. -/
namespace Eb
open PySem L2
theorem cf_dR (L : Row1) : cf (dR L) = true := by
  show cfL (L.map fun p => D.int p.2) = true
  exact cfL_map (fun _ => rfl) L
theorem cf_dBd (L : Row2) : cf (dBd L) = true := by
  show cfL (L.map fun p => D.tup [dT p.2.1, dS p.2.2]) = true
  exact cfL_map (fun p => by
    show cfL [dT p.2.1, dS p.2.2] = true
    rw [cfL_cons, cfL_cons, cf_dS]
    show (cfL (dI p.2.1) && _) = true
    rw [cfL_I]
    rfl) L
theorem cf_by {h : Hou} {hour : Int} {st : List Int} : ∀ i, cf (h.byAt hour st i) = true
  | 0 => rfl
  | i + 1 => cf_dBd _
theorem cf_dSr {h : Hou} {hour : Int} {st : List Int} {n : Nat} : cf (h.dSr hour st n) = true := by
  unfold Hou.dSr
  rw [cf_ins, cfL_cons, cfL_cons, cfL_cons, cfL_cons, cf_ins, cfL_hF, cf_int, cf_lst, cf_lst]
  unfold Hou.rowsD Hou.bysD
  rw [cfL_map (fun j => cf_dR _), cfL_map (fun j => cf_by j)]
  rfl
theorem cf_dT (s : List Int) : cf (dT s) = true := by
  show cfL (dI s) = true
  exact cfL_I
theorem cf_dK (f : Option Key3) : cf (dK f) = true := by
  rcases f with _ | ⟨v, a, s⟩
  · rfl
  · show cfL [D.int v, .int (a : Int), dT s] = true
    rw [cfL_cons, cfL_cons, cfL_cons, cf_dT]
    rfl
def Hou.tabD (h : Hou) (hour : Int) (st : List Int) (n : Nat) : D := .lst ((List.range (n + 1)).map fun j => tabRow (h.rowAt hour st j))
theorem cf_tabRow (L : Row1) : cf (tabRow L) = true := by
  show cfL ((srtT (L.map (·.1))).map fun s => D.tup [dT s, .int ((getR L s).getD 0)]) = true
  exact cfL_map (fun s => by
    show cfL [dT s, D.int _] = true
    rw [cfL_cons, cf_dT]
    rfl) _
theorem cf_tabD {h : Hou} {hour : Int} {st : List Int} {n : Nat} : cf (h.tabD hour st n) = true := by
  show cfL _ = true
  exact cfL_map (fun j => cf_tabRow _) _
def Hou.begs (h : Hou) : List Int := h.people.map (·.beg)
theorem begs_stat {h : Hou} (H : HouOk h) : Stat h h.begs := ⟨by simp [Hou.begs], fun n hn => by
  unfold Hou.begs at hn ⊢
  rw [List.length_map] at hn
  have e : S (h.people.map (·.beg)) n = (h.P n).beg := by
    show ((h.people.map (·.beg))[n]?).getD 0 = _
    rw [List.getElem?_map, Hou.P_of hn]
    rfl
  rw [e]
  have k := H.per _ (Hou.P_mem hn)
  exact ⟨k.b0, k.bz⟩⟩
/-- what is told -/
def Hou.fewD (h : Hou) (n : Nat) : D := match h.best 0 h.begs n with
  | none => .tup [.str "none", h.tabD 0 h.begs n]
  | some (v, a, s) => .tup [.str "plan", .lst ((h.planTo 0 h.begs a s).map dS), .int v, h.tabD 0 h.begs n]
theorem search_ev {h : Hou} (H : HouOk h) (n : Nat) (hn : h.hours = n) : ∃ mu', mFrzO (mMake 1 m_Search_init (mCons (mVar 0) (mCons (mC (.int 0)) (mCons (mCall (mPure m_begin) (mCons (mVar 0) (mNil))) (mNil))))) [some (.ins 0 (hF h)), none, none] [] = some (.ok (h.dSr 0 h.begs n), mu') ∧ ∀ i ≤ n, RowOk h (h.rowAt 0 h.begs i) := by
  have b1 := pure_of (f := m_begin) (mu := []) (by simp) (begin_ev (h := h) H.p4 (mu := [])) (by show cfL _ = true; exact cfL_I)
  obtain ⟨mu1, q1, q2, q3, q4, q5⟩ := s_init_ev H (hour := 0) (begs_stat H) (Int.le_refl _) n (by omega) H.h8
  obtain ⟨mu2, q6⟩ := frzO_ev q2 q3 q4
  refine ⟨mu2, ?_, q5⟩
  have m1 : mMake 1 m_Search_init (mCons (mVar 0) (mCons (mC (.int 0)) (mCons (mCall (mPure m_begin) (mCons (mVar 0) (mNil))) (mNil)))) [some (.ins 0 (hF h)), none, none] [] = some (.ok (.cel 0), mu1) := by
    unfold mMake
    have a1 : mCons (mVar 0) (mCons (mC (.int 0)) (mCons (mCall (mPure m_begin) (mCons (mVar 0) (mNil))) (mNil))) [some (.ins 0 (hF h)), none, none] [] = some (.ok [.ins 0 (hF h), .int 0, dT h.begs], []) := by
      simp [b1, Hou.begs]
    rw [bindM_ok a1]
    show (match m_Search_init [.cel 0, .ins 0 (hF h), .int 0, dT h.begs] [.ins 1 []] with
      | some (Rs.ok D.non, mu') => some (Rs.ok (D.cel ([] : Mu).length), mu')
      | some (Rs.er x, mu') => some (Rs.er x, mu')
      | _ => none) = _
    rw [q1]
    rfl
  unfold mFrzO
  rw [bindM_ok m1]
  show (frzO (.cel 0) mu1).map _ = _
  rw [q6]
  rfl
theorem fewest_ev {h : Hou} (H : HouOk h) (n : Nat) (hn : h.hours = n) : ∃ mu', m_fewest [.ins 0 (hF h)] [] = some (.ok (h.fewD n), mu') := by
  obtain ⟨mu1, e1, k⟩ := search_ev H n hn
  have h8 := H.h8
  have n8 : n ≤ 8 := by omega
  have b1 := fun mu : Mu => pure_of (f := m_Search_best) (ds := [h.dSr 0 h.begs n]) (mu := mu) (by rw [cfL_cons, cf_dSr]; rfl) (best_ev H (by omega) k []) (cf_dK _)
  have t1 := fun mu : Mu => pure_of (f := m_Search_table) (ds := [h.dSr 0 h.begs n]) (mu := mu) (by rw [cfL_cons, cf_dSr]; rfl) (table_ev H (by omega) k []) (cf_tabD (h := h))
  have is1 : ∀ mu : Mu, insOf mu (h.dSr 0 h.begs n) = some (1, _) := fun _ => rfl
  have e0 : (List.range (n + 1)).map (fun j => tabRow (h.rowAt 0 h.begs j)) = (List.range (n + 1)).map (fun j => tabRow (h.rowAt 0 h.begs j)) := rfl
  have bs := best_is (h := h) (hour := 0) (st := h.begs) (n := n)
  unfold Hou.fewD
  cases hb : h.best 0 h.begs n with
  | none =>
    rw [hb] at b1
    have td : D.lst ((List.range (n + 1)).map fun j => tabRow (h.rowAt 0 h.begs j)) = h.tabD 0 h.begs n := rfl
    rw [td] at t1
    generalize h.dSr 0 h.begs n = sr at *
    generalize h.tabD 0 h.begs n = tb at *
    refine ⟨mu1, ?_⟩
    simp [m_fewest, e1, b1, t1, is1, dK]
  | some key =>
    obtain ⟨v, a, s⟩ := key
    show ∃ mu', _ = some (Rs.ok (D.tup [.str "plan", .lst ((h.planTo 0 h.begs a s).map dS), .int v, h.tabD 0 h.begs n]), mu')
    obtain ⟨w1, w2, w3⟩ := bs.why _ hb
    rw [hb] at b1
    have p1 := fun mu : Mu => pure_of (f := m_Search_plan_to) (ds := [h.dSr 0 h.begs n, .int (a : Int), dT s]) (mu := mu) (by rw [cfL_cons, cf_dSr, cfL_cons, cfL_cons, cf_dT]; rfl) (plan_to_ev (h := h) (n := n) w1 (show a < 90 by have : a ≤ n := w1; omega) w2 []) (by show cfL _ = true; exact cfL_map (f := dS) (fun _ => cf_dS) _)
    have td : D.lst ((List.range (n + 1)).map fun j => tabRow (h.rowAt 0 h.begs j)) = h.tabD 0 h.begs n := rfl
    rw [td] at t1
    generalize h.dSr 0 h.begs n = sr at *
    generalize h.tabD 0 h.begs n = tb at *
    generalize (h.planTo 0 h.begs a s).map dS = pl at *
    refine ⟨mu1, ?_⟩
    simp [m_fewest, e1, b1, t1, p1, is1, dK]
theorem cf_fewD {h : Hou} {n : Nat} : cf (h.fewD n) = true := by
  unfold Hou.fewD
  split
  · rw [cf_tup, cfL_cons, cfL_cons, cf_tabD]
    rfl
  · rw [cf_tup, cfL_cons, cfL_cons, cfL_cons, cfL_cons, cf_tabD, cf_lst, cfL_map (f := dS) (fun _ => cf_dS)]
    rfl
theorem fewest_pv {h : Hou} (H : HouOk h) (n : Nat) (hn : h.hours = n) (mu : Mu) : mPure m_fewest [.ins 0 (hF h)] mu = some (.ok (h.fewD n), mu) := by
  obtain ⟨mu', e⟩ := fewest_ev H n hn
  exact pure_of (by simp) e cf_fewD
end Eb

/-! Eb: an easier house. -/
namespace Eb
open PySem L2
structure Ease (h h' : Hou) : Prop where
  pl : h'.people.length = h.people.length
  free : ∀ n, (h'.P n).free = (h.P n).free
  most : ∀ n, (h'.P n).most = (h.P n).most
  led : ∀ n z, z ∈ (h.P n).led → z ∈ (h'.P n).led
  since : ∀ n, (h'.P n).since ≤ (h.P n).since
  goal : ∀ n, (h'.P n).goal = (h.P n).goal ∨ (h'.P n).goal = -1
  beg : h'.begs = h.begs
  dl : h.doors.length ≤ h'.doors.length
  dr : ∀ n < h.doors.length, (h'.Dr n).one = (h.Dr n).one ∧ (h'.Dr n).oth = (h.Dr n).oth ∧ (h.Dr n).wide ≤ (h'.Dr n).wide ∧ (h'.Dr n).ope ≤ (h.Dr n).ope ∧ (h.Dr n).shu ≤ (h'.Dr n).shu
  hours : h.hours ≤ h'.hours
section
variable {h h' : Hou} (E : Ease h h')
include E
theorem Ease.isFree (n : Nat) (z : Int) : (h'.P n).isFree z = (h.P n).isFree z := by unfold Per.isFree; rw [E.free]
theorem Ease.may {n : Nat} {z : Int} (m : (h.P n).may z = true) : (h'.P n).may z = true := by
  rw [may_eq, Bool.or_eq_true] at m ⊢
  rw [E.isFree]
  refine m.imp id fun q => ?_
  exact decide_eq_true (E.led n z (of_decide_eq_true q))
theorem Ease.bound (ps : List Nat) (zs : List Int) : h'.bound ps zs = h.bound ps zs := by
  unfold Hou.bound
  congr 1
  funext n
  congr 2
  congr 1
  funext z
  rw [E.isFree]
theorem Ease.hands (ps : List Nat) (zs : List Int) : h'.hands ps zs = h.hands ps zs := by
  unfold Hou.hands
  rw [E.bound]
  congr 2
  funext n
  exact E.most n
theorem Ease.left {st : List Int} (l : h.left st = none) : h'.left st = none := by
  unfold Hou.left at l ⊢
  rw [List.find?_eq_none] at l ⊢
  intro n hn
  have := l n hn
  unfold Hou.leftP at this ⊢
  rw [E.isFree, E.bound, E.hands]
  simp only [Bool.not_eq_true, Bool.or_eq_false_iff, Bool.not_eq_false'] at this ⊢
  exact ⟨E.may this.1, this.2⟩
theorem Ease.bar {hour : Int} {st : List Int} {num : Nat} {g : List Nat} (hn : num < h.doors.length) (e : h.bar hour st (.go num g) = none) : h'.bar hour st (.go num g) = none := by
  obtain ⟨d1, d2, d3, d4, d5⟩ := E.dr num hn
  have e : h.barGo hour st num g (S st (g.headD 0)) = none := e
  show h'.barGo hour st num g (S st (g.headD 0)) = none
  unfold Hou.barGo at e ⊢
  split at e
  · rename_i ho
    rw [if_pos (by omega)]
    split at e
    · cases e
    · rename_i hl
      have hl := List.find?_eq_none.mp hl
      have hl' : g.find? (h'.late hour) = none := List.find?_eq_none.mpr fun n hn => by
        have := hl n hn
        unfold Hou.late at this ⊢
        have := E.since n
        simp only [decide_eq_true_eq] at *
        omega
      rw [hl']
      show h'.barA st num g (S st (g.headD 0)) = none
      unfold Hou.barA at e ⊢
      have ea : h'.away st num (S st (g.headD 0)) = h.away st num (S st (g.headD 0)) := by
        funext n
        unfold Hou.away
        rw [d1, d2]
      rw [ea]
      split at e
      · cases e
      · rename_i ha
        show h'.barW st num g (S st (g.headD 0)) = none
        unfold Hou.barW at e ⊢
        split at e
        · cases e
        · rename_i hw
          rw [if_neg (by omega), d1, d2]
          rw [Hou.barG_eq] at e ⊢
          split at e
          · cases e
          · rename_i hs
            have hs := List.find?_eq_none.mp hs
            have hs' : g.find? (h'.strange ((h.Dr num).one + (h.Dr num).oth - S st (g.headD 0))) = none := List.find?_eq_none.mpr fun n hn => by
              have := hs n hn
              unfold Hou.strange at this ⊢
              simp only [Bool.not_eq_true, Bool.not_eq_false'] at this ⊢
              exact E.may this
            rw [hs']
            show h'.barH st g (S st (g.headD 0)) ((h.Dr num).one + (h.Dr num).oth - S st (g.headD 0)) = none
            unfold Hou.barH at e ⊢
            rw [E.bound, E.hands]
            split at e
            · cases e
            · rename_i hh
              rw [if_neg hh]
              split at e
              · cases e
              · rename_i hq
                rw [E.left hq]
  · cases e
theorem Ease.next {num : Nat} {g : List Nat} (st : List Int) (hn : num < h.doors.length) : h'.next st (.go num g) = h.next st (.go num g) := by
  obtain ⟨d1, d2, _⟩ := E.dr num hn
  show mv st g (h'.thOf st num g) = mv st g (h.thOf st num g)
  unfold Hou.thOf
  rw [d1, d2]
theorem Ease.goings (s : Stp) : h'.goings s = h.goings s := by
  cases s with
  | wait => rfl
  | go num g =>
    show (g.filter fun n => decide (0 < (h'.P n).most)).length = (g.filter fun n => decide (0 < (h.P n).most)).length
    congr 2
    funext n
    rw [E.most]
theorem Ease.met {st : List Int} (m : h.met st = true) : h'.met st = true := by
  unfold Hou.met at m ⊢
  rw [List.all_eq_true] at m ⊢
  intro n hn
  have := m n hn
  unfold Hou.metP at this ⊢
  rcases E.goal n with q | q
  · rw [q]; exact this
  · rw [q]; simp
theorem Ease.steps {hour : Int} {st : List Int} {s : Stp} (hs : s ∈ h.steps hour st) : s ∈ h'.steps hour st ∧ h'.next st s = h.next st s := by
  unfold Hou.steps Hou.stepsN at hs ⊢
  rcases List.mem_cons.mp hs with rfl | hs
  · exact ⟨List.mem_cons_self, rfl⟩
  · obtain ⟨d, hd, hs⟩ := List.mem_flatMap.mp hs
    unfold Hou.stepsD at hs
    obtain ⟨g, hg, rfl⟩ := List.mem_map.mp hs
    obtain ⟨h1, h2⟩ := List.mem_filter.mp hg
    have hd := List.mem_range.mp hd
    have dl := E.dl
    refine ⟨List.mem_cons_of_mem _ (List.mem_flatMap.mpr ⟨d, List.mem_range.mpr (by omega), ?_⟩), E.next st hd⟩
    unfold Hou.stepsD
    refine List.mem_map.mpr ⟨g, List.mem_filter.mpr ⟨by rw [E.pl]; exact h1, ?_⟩, rfl⟩
    have : h.bar hour st (.go d g) = none := by simpa using h2
    rw [E.bar hd this]
    rfl
theorem Ease.row {hour : Int} {st : List Int} : ∀ (i : Nat) (x : List Int) (v : Int), getR (h.rowAt hour st i) x = some v → ∃ w, getR (h'.rowAt hour st i) x = some w ∧ w ≤ v
  | 0, x, v, hv => ⟨v, hv, Int.le_refl _⟩
  | i + 1, x, v, hv => by
    obtain ⟨st', s, _, n, ⟨q2, q3⟩, q4, q5⟩ := (goOn_inv (h := h) (hour + i) (h.rowAt hour st i)).why x v hv
    obtain ⟨w, r1, r2⟩ := Ease.row i st' n q2
    obtain ⟨s1, s2⟩ := E.steps q3
    obtain ⟨u, t1, t2⟩ := row_step r1 s1
    rw [s2, q4] at t1
    rw [E.goings] at t2
    exact ⟨u, t1, by omega⟩
theorem Ease.best {hour : Int} {st : List Int} {n n' : Nat} (hn : n ≤ n') {k : Key3} (hk : h.best hour st n = some k) : ∃ k', h'.best hour st n' = some k' ∧ k'.1 ≤ k.1 := by
  obtain ⟨q1, q2, q3⟩ := (best_is (h := h) (hour := hour) (st := st) (n := n)).why k hk
  obtain ⟨w, r1, r2⟩ := E.row _ _ _ q2
  obtain ⟨k', s1, s2⟩ := (best_is (h := h') (hour := hour) (st := st) (n := n')).low _ (by omega) _ _ r1 (E.met q3)
  exact ⟨k', s1, by omega⟩
end
end Eb

/-! Eb: the law's easier house. -/
namespace Eb
open PySem L2
theorem cut_drop {α : Type} {l : List α} {n : Nat} : cutL l (some (n : Int)) none = l.drop n := by
  unfold cutL
  rw [HT.sIx_nat, HT.sIx_none]
  by_cases h : n ≤ l.length
  · rw [Nat.min_eq_left h, List.take_of_length_le (by rw [List.length_drop]; omega)]
  · rw [Nat.min_eq_right (by omega), List.drop_eq_nil_of_le (Nat.le_refl _), List.drop_eq_nil_of_le (by omega)]
    simp
theorem cut_drop1 {α : Type} {l : List α} {n : Nat} : cutL l (some ((n : Int) + 1)) none = l.drop (n + 1) := by
  rw [show ((n : Int) + 1) = ((n + 1 : Nat) : Int) by omega]
  exact cut_drop
theorem cut_set {α : Type} {l : List α} {n : Nat} (a : α) (h : n < l.length) : l.take n ++ [a] ++ l.drop (n + 1) = l.set n a := by
  rw [List.set_eq_take_append_cons_drop, if_pos h, List.append_assoc]
  rfl
theorem map_set_same {α β : Type} {f : α → β} {l : List α} {n : Nat} {a b : α} (h : l[n]? = some b) (e : f a = f b) : (l.set n a).map f = l.map f := by
  rw [List.map_set, e]
  apply List.ext_getElem?
  intro i
  rw [List.getElem?_set]
  by_cases c : n = i
  · subst c
    rw [if_pos rfl, List.getElem?_map, h, List.length_map]
    have := (List.getElem?_eq_some_iff.mp h).1
    rw [if_pos this]
    rfl
  · rw [if_neg c]
theorem P_set {h : Hou} {a : Nat} {p : Per} (ha : a < h.people.length) (z : Int) (hr : Int) (ds : List Dor) (n : Nat) : (Hou.P ⟨z, hr, ds, h.people.set a p⟩ n) = if n = a then p else h.P n := by
  unfold Hou.P
  show ((h.people.set a p)[n]?).getD _ = _
  rw [List.getElem?_set]
  by_cases c : a = n
  · subst c
    rw [if_pos rfl, if_pos ha, if_pos rfl]
    rfl
  · rw [if_neg c, if_neg (fun z => c z.symm)]
theorem Dr_set {h : Hou} {a : Nat} {p : Dor} (ha : a < h.doors.length) (z : Int) (hr : Int) (ps : List Per) (n : Nat) : (Hou.Dr ⟨z, hr, h.doors.set a p, ps⟩ n) = if n = a then p else h.Dr n := by
  unfold Hou.Dr
  show ((h.doors.set a p)[n]?).getD _ = _
  rw [List.getElem?_set]
  by_cases c : a = n
  · subst c
    rw [if_pos rfl, if_pos ha, if_pos rfl]
    rfl
  · rw [if_neg c, if_neg (fun z => c z.symm)]
theorem ease_per {h : Hou} (H : HouOk h) {a : Nat} (ha : a < h.people.length) {p : Per} (ok : PerOk h.zones p) (en : p.name = (h.P a).name) (eb : p.beg = (h.P a).beg) (ef : p.free = (h.P a).free) (em : p.most = (h.P a).most)
    (el : ∀ z, z ∈ (h.P a).led → z ∈ p.led) (es : p.since ≤ (h.P a).since) (eg : p.goal = (h.P a).goal ∨ p.goal = -1) :
    HouOk ⟨h.zones, h.hours, h.doors, h.people.set a p⟩ ∧ Ease h ⟨h.zones, h.hours, h.doors, h.people.set a p⟩ := by
  have E : Ease h ⟨h.zones, h.hours, h.doors, h.people.set a p⟩ := by
    have q := P_set (p := p) ha h.zones h.hours h.doors
    refine ⟨by simp, fun n => ?_, fun n => ?_, fun n z hz => ?_, fun n => ?_, fun n => ?_, ?_, Nat.le_refl _, fun n hn => ⟨rfl, rfl, Int.le_refl _, Int.le_refl _, Int.le_refl _⟩, Int.le_refl _⟩
    · rw [q]; split
      · rename_i e; rw [ef, e]
      · rfl
    · rw [q]; split
      · rename_i e; rw [em, e]
      · rfl
    · rw [q]; split
      · rename_i e; exact el z (e ▸ hz)
      · exact hz
    · rw [q]; split
      · rename_i e; rw [e]; exact es
      · exact Int.le_refl _
    · rw [q]; split
      · rename_i e; rw [e]; exact eg
      · exact .inl rfl
    · exact map_set_same (Hou.P_of ha) eb
  refine ⟨⟨H.z1, H.z4, H.h0, H.h8, H.d6, H.dor, ?_, ?_, ?_, ?_, ?_⟩, E⟩
  · show 1 ≤ (h.people.set a p).length
    rw [List.length_set]; exact H.p1
  · show (h.people.set a p).length ≤ 4
    rw [List.length_set]; exact H.p4
  · intro x hx
    rcases List.mem_or_eq_of_mem_set hx with hx | rfl
    · exact H.per x hx
    · exact ok
  · show ((h.people.set a p).map (·.name)).Nodup
    rw [map_set_same (Hou.P_of ha) en]
    exact H.nms
  · have := E.left H.left
    rw [← this]
    congr 1
    exact E.beg
theorem ease_dor {h : Hou} (H : HouOk h) {a : Nat} (ha : a < h.doors.length) {d : Dor} (ok : DorOk h.zones d) (e1 : d.one = (h.Dr a).one) (e2 : d.oth = (h.Dr a).oth) (e3 : (h.Dr a).wide ≤ d.wide) (e4 : d.ope ≤ (h.Dr a).ope) (e5 : (h.Dr a).shu ≤ d.shu) :
    HouOk ⟨h.zones, h.hours, h.doors.set a d, h.people⟩ ∧ Ease h ⟨h.zones, h.hours, h.doors.set a d, h.people⟩ := by
  have E : Ease h ⟨h.zones, h.hours, h.doors.set a d, h.people⟩ := by
    have q := Dr_set (p := d) ha h.zones h.hours h.people
    refine ⟨rfl, fun n => rfl, fun n => rfl, fun n z hz => hz, fun n => Int.le_refl _, fun n => .inl rfl, rfl, by simp, fun n hn => ?_, Int.le_refl _⟩
    rw [q]; split
    · rename_i e; rw [e]; exact ⟨e1, e2, e3, e4, e5⟩
    · exact ⟨rfl, rfl, Int.le_refl _, Int.le_refl _, Int.le_refl _⟩
  refine ⟨⟨H.z1, H.z4, H.h0, H.h8, ?_, ?_, H.p1, H.p4, H.per, H.nms, E.left H.left⟩, E⟩
  · show (h.doors.set a d).length ≤ 6
    rw [List.length_set]; exact H.d6
  · intro x hx
    rcases List.mem_or_eq_of_mem_set hx with hx | rfl
    · exact H.dor x hx
    · exact ok
theorem ease_add {h : Hou} (H : HouOk h) {d : Dor} (ok : DorOk h.zones d) (l6 : h.doors.length < 6) :
    HouOk ⟨h.zones, h.hours, h.doors ++ [d], h.people⟩ ∧ Ease h ⟨h.zones, h.hours, h.doors ++ [d], h.people⟩ := by
  have E : Ease h ⟨h.zones, h.hours, h.doors ++ [d], h.people⟩ := by
    refine ⟨rfl, fun n => rfl, fun n => rfl, fun n z hz => hz, fun n => Int.le_refl _, fun n => .inl rfl, rfl, by simp, fun n hn => ?_, Int.le_refl _⟩
    have q : Hou.Dr ⟨h.zones, h.hours, h.doors ++ [d], h.people⟩ n = h.Dr n := by
      unfold Hou.Dr
      show ((h.doors ++ [d])[n]?).getD _ = _
      rw [List.getElem?_append_left hn]
    rw [q]
    exact ⟨rfl, rfl, Int.le_refl _, Int.le_refl _, Int.le_refl _⟩
  refine ⟨⟨H.z1, H.z4, H.h0, H.h8, ?_, ?_, H.p1, H.p4, H.per, H.nms, E.left H.left⟩, E⟩
  · show (h.doors ++ [d]).length ≤ 6
    rw [List.length_append]
    simp
    omega
  · intro x hx
    rcases List.mem_append.mp hx with hx | hx
    · exact H.dor x hx
    · rw [List.mem_singleton.mp hx]; exact ok
theorem ease_hours {h : Hou} (H : HouOk h) {n : Int} (h1 : h.hours ≤ n) (h8 : n ≤ 8) : HouOk ⟨h.zones, n, h.doors, h.people⟩ ∧ Ease h ⟨h.zones, n, h.doors, h.people⟩ := by
  have E : Ease h ⟨h.zones, n, h.doors, h.people⟩ := ⟨rfl, fun n => rfl, fun n => rfl, fun n z hz => hz, fun n => Int.le_refl _, fun n => .inl rfl, rfl, Nat.le_refl _, fun n hn => ⟨rfl, rfl, Int.le_refl _, Int.le_refl _, Int.le_refl _⟩, h1⟩
  exact ⟨⟨H.z1, H.z4, by have := H.h0; show 0 ≤ n; omega, h8, H.d6, H.dor, H.p1, H.p4, H.per, H.nms, E.left H.left⟩, E⟩
end Eb

/-! Eb: the law's easier house is drawn. -/
namespace Eb
open PySem L2
def Eased (ns : List Int) (r : Row) (h : Hou) : Prop := ∃ (h' : Hou) (r' : Row), HouOk h' ∧ Ease h h' ∧ m_lw_easier [.cel 0, dH h] [rowD ns r] = some (.ok (dH h'), [rowD ns r'])
section
variable {ns : List Int} {r : Row} {h : Hou} (H : HouOk h)
include H
theorem at_ev : ∃ a : Nat, raw ns (nxt ns r) % (h.people.length : Int) = (a : Int) ∧ a < h.people.length := by
  have p1 := H.p1
  have q := mod_lt (x := raw ns (nxt ns r)) (m := (h.people.length : Int)) (by omega)
  exact ⟨(raw ns (nxt ns r) % (h.people.length : Int)).toNat, by omega, by omega⟩
theorem cut_per {a : Nat} (ha : a < h.people.length) : (∀ d, lim ((cutL (h.people.map dPer) none (some (a : Int))).length + 1) d = some d) ∧ (∀ d, lim ((cutL (h.people.map dPer) none (some (a : Int))).length + 1 + (cutL (h.people.map dPer) (some ((a : Int) + 1)) none).length) d = some d) ∧
    ∀ n b g m s f l, cutL (h.people.map dPer) none (some (a : Int)) ++ D.tup [.str n, .int b, .int g, .int m, .int s, .tup (dI f), .tup (dI l)] :: cutL (h.people.map dPer) (some ((a : Int) + 1)) none = (h.people.set a ⟨n, b, g, m, s, f, l⟩).map dPer := by
  have p4 := H.p4
  rw [cut_take, cut_drop1]
  refine ⟨fun d => lim_ok (by simp; omega), fun d => lim_ok (by simp; omega), fun n b g m s f l => ?_⟩
  rw [List.map_set, ← cut_set _ (by simpa using ha), List.append_assoc]
  rfl
theorem cut_dor {a : Nat} (ha : a < h.doors.length) : (∀ d, lim ((cutL (h.doors.map dDor) none (some (a : Int))).length + 1) d = some d) ∧ (∀ d, lim ((cutL (h.doors.map dDor) none (some (a : Int))).length + 1 + (cutL (h.doors.map dDor) (some ((a : Int) + 1)) none).length) d = some d) ∧
    ∀ n b g m s, cutL (h.doors.map dDor) none (some (a : Int)) ++ D.tup [.int n, .int b, .int g, .int m, .int s] :: cutL (h.doors.map dDor) (some ((a : Int) + 1)) none = (h.doors.set a ⟨n, b, g, m, s⟩).map dDor := by
  have p4 := H.d6
  rw [cut_take, cut_drop1]
  refine ⟨fun d => lim_ok (by simp; omega), fun d => lim_ok (by simp; omega), fun n b g m s => ?_⟩
  rw [List.map_set, ← cut_set _ (by simpa using ha), List.append_assoc]
  rfl
end
theorem zlist2 (zones : Int) (h1 : 1 ≤ zones) (h4 : zones ≤ 4) : ∃ zs : List Int, rng2 [.int 1, .int zones] = some (dI zs) ∧ zs.Pairwise (· < ·) ∧ (∀ z, z ∈ zs ↔ 1 ≤ z ∧ z < zones) ∧ zs.length ≤ 3 := by
  have : zones = 1 ∨ zones = 2 ∨ zones = 3 ∨ zones = 4 := by omega
  rcases this with rfl | rfl | rfl | rfl
  · exact ⟨[], rfl, by simp, fun z => by first | (simp; done) | (simp; omega), by simp⟩
  · exact ⟨[1], rfl, by simp, fun z => by simp; omega, by simp⟩
  · exact ⟨[1, 2], rfl, by simp, fun z => by simp; omega, by simp⟩
  · exact ⟨[1, 2, 3], rfl, by simp, fun z => by simp; omega, by simp⟩
section
variable {ns : List Int} {r : Row} {h : Hou} (H : HouOk h)
include H
/-- nothing, since, goal, led -/
theorem eased_per (hw : (raw ns r % 6 = 0 ∧ h.doors = []) ∨ (raw ns r % 6 = 1 ∧ ¬ (1 < h.zones ∧ h.doors.length < 6)) ∨ raw ns r % 6 = 2 ∨ raw ns r % 6 = 3 ∨ raw ns r % 6 = 4) : Eased ns r h := by
  have p1 := H.p1
  obtain ⟨a, ea, ha⟩ := at_ev (ns := ns) (r := r) H
  have lp : (0 : Int) < h.people.length := by omega
  have t1 := fun r rest => taken_ev (ns := ns) (r := r) (rest := rest) lp
  have eH : ∀ u rh, tTp 4 u (dH h) rh = u [.int h.zones, .int h.hours, .lst (h.doors.map dDor), .lst (h.people.map dPer)] rh := fun _ _ => rfl
  have eP : ∀ u rh, tTp 7 u (dPer (h.P a)) rh = u [.str (h.P a).name, .int (h.P a).beg, .int (h.P a).goal, .int (h.P a).most, .int (h.P a).since, .tup (dI (h.P a).free), .tup (dI (h.P a).led)] rh := fun _ _ => rfl
  have ok := H.per _ (Hou.P_mem ha)
  obtain ⟨c1, c2, c3⟩ := cut_per H ha
  have z1 := H.z1
  rcases hw with ⟨hw, hd⟩ | ⟨hw, hd⟩ | hw | hw | hw
  · obtain ⟨H', E'⟩ := ease_per H ha (p := ⟨(h.P a).name, (h.P a).beg, (h.P a).goal, (h.P a).most, (h.P a).since, (h.P a).free, (h.P a).led⟩) ok rfl rfl rfl rfl (fun z hz => hz) (Int.le_refl _) (.inl rfl)
    refine ⟨_, nxt ns (nxt ns r), H', E', ?_⟩
    have nd : ∀ mu : Mu, neD mu (.lst []) (.lst []) = some (.bl false) := fun mu => by rw [o_neP rfl rfl, same_nil]; rfl
    simp [m_lw_easier, taken_ev, hw, t1, ea, eH, eP, Hou.P_of ha, c1, c2, c3, nd, hd, -List.map_set]
    simp [dH, hF, hd]
  · obtain ⟨H', E'⟩ := ease_per H ha (p := ⟨(h.P a).name, (h.P a).beg, (h.P a).goal, (h.P a).most, (h.P a).since, (h.P a).free, (h.P a).led⟩) ok rfl rfl rfl rfl (fun z hz => hz) (Int.le_refl _) (.inl rfl)
    refine ⟨_, nxt ns (nxt ns r), H', E', ?_⟩
    by_cases hz : 1 < h.zones
    · have hl : ¬ (h.doors.length : Int) < 6 := by omega
      simp [m_lw_easier, taken_ev, hw, t1, ea, eH, eP, Hou.P_of ha, c1, c2, c3, hz, hl, -List.map_set]
      simp [dH, hF]
    · simp [m_lw_easier, taken_ev, hw, t1, ea, eH, eP, Hou.P_of ha, c1, c2, c3, hz, -List.map_set]
      simp [dH, hF]
  · obtain ⟨zs, e1, e2, e3, e4⟩ := zlist2 h.zones H.z1 H.z4
    have ll : ∀ x ∈ zs.filter (fun z => !decide (z ∈ (h.P a).free)), x ∈ zs ∧ x ∉ (h.P a).free := fun x hx => by
      have := List.mem_filter.mp hx
      exact ⟨this.1, by simpa using this.2⟩
    obtain ⟨H', E'⟩ := ease_per H ha (p := ⟨(h.P a).name, (h.P a).beg, (h.P a).goal, (h.P a).most, (h.P a).since, (h.P a).free, zs.filter fun z => !decide (z ∈ (h.P a).free)⟩)
      { ok with
        zs := fun z hz => by
          rcases List.mem_append.mp hz with hz | hz
          · exact ok.zs z (List.mem_append_left _ hz)
          · exact (e3 z).mp (ll z hz).1
        nd := by
          rw [List.nodup_append]
          exact ⟨ok.fu.imp (fun h => Int.ne_of_lt h), (e2.filter _).imp (fun h => Int.ne_of_lt h), fun x hx y hy e => (ll y hy).2 (e ▸ hx)⟩
        lu := e2.filter _ } rfl rfl rfl rfl (fun z hz => by
          refine List.mem_filter.mpr ⟨(e3 z).mpr (ok.zs z (List.mem_append_right _ hz)), ?_⟩
          have nd := ok.nd
          rw [List.nodup_append] at nd
          simpa using fun q => nd.2.2 z q z hz rfl) (Int.le_refl _) (.inl rfl)
    refine ⟨_, nxt ns (nxt ns r), H', E', ?_⟩
    have hc : ∀ b c d e f g i j k l m n o p q s (mu : Mu), mLc [23] (mRng2 (mCons (mC (.int 1)) (mCons (mVar 2) (mNil)))) (tNm 23) (mTest (mOp notinD (mVar 23) (mVar 13))) (mVar 23) [b, c, some (.int h.zones), d, e, f, g, i, j, k, l, m, n, some (.tup (dI (h.P a).free)), o, p, q, s, none, none, none, none, none, none] mu = some (.ok (.lst (dI (zs.filter fun z => !decide (z ∈ (h.P a).free)))), mu) := by
      intros
      rw [lc_ev (ds := zs) (f := D.int) (fun z => !decide (z ∈ (h.P a).free)) D.int ?_ ?_ ?_ ?_]
      · simp [e1]
      · omega
      · intro z hz
        simp [wipeR]
      · intro z hz _
        simp [wipeR]
    simp [m_lw_easier, taken_ev, hw, t1, ea, eH, eP, Hou.P_of ha, c1, c2, c3, hc, -List.map_set]
    simp [dH, hF]
  · obtain ⟨H', E'⟩ := ease_per H ha (p := ⟨(h.P a).name, (h.P a).beg, (h.P a).goal, (h.P a).most, 0, (h.P a).free, (h.P a).led⟩) { ok with s0 := Int.le_refl _, s8 := by show (0 : Int) ≤ 8; omega } rfl rfl rfl rfl (fun z hz => hz) ok.s0 (.inl rfl)
    refine ⟨_, nxt ns (nxt ns r), H', E', ?_⟩
    simp [m_lw_easier, taken_ev, hw, t1, ea, eH, eP, Hou.P_of ha, c1, c2, c3, -List.map_set]
    simp [dH, hF]
  · obtain ⟨H', E'⟩ := ease_per H ha (p := ⟨(h.P a).name, (h.P a).beg, -1, (h.P a).most, (h.P a).since, (h.P a).free, (h.P a).led⟩) { ok with g0 := Int.le_refl _, gz := by show (-1 : Int) < h.zones; omega } rfl rfl rfl rfl (fun z hz => hz) (Int.le_refl _) (.inr rfl)
    refine ⟨_, nxt ns (nxt ns r), H', E', ?_⟩
    simp [m_lw_easier, taken_ev, hw, t1, ea, eH, eP, Hou.P_of ha, c1, c2, c3, -List.map_set]
    simp [dH, hF]
/-- a door, a door more, an hour more -/
theorem eased_dor (hw : (raw ns r % 6 = 0 ∧ h.doors ≠ []) ∨ (raw ns r % 6 = 1 ∧ 1 < h.zones ∧ h.doors.length < 6) ∨ raw ns r % 6 = 5) : Eased ns r h := by
  have p1 := H.p1
  obtain ⟨a, ea, ha⟩ := at_ev (ns := ns) (r := r) H
  have lp : (0 : Int) < h.people.length := by omega
  have t1 := fun r rest => taken_ev (ns := ns) (r := r) (rest := rest) lp
  have eH : ∀ u rh, tTp 4 u (dH h) rh = u [.int h.zones, .int h.hours, .lst (h.doors.map dDor), .lst (h.people.map dPer)] rh := fun _ _ => rfl
  have eP : ∀ u rh, tTp 7 u (dPer (h.P a)) rh = u [.str (h.P a).name, .int (h.P a).beg, .int (h.P a).goal, .int (h.P a).most, .int (h.P a).since, .tup (dI (h.P a).free), .tup (dI (h.P a).led)] rh := fun _ _ => rfl
  rcases hw with ⟨hw, hd⟩ | ⟨hw, hz, hl⟩ | hw
  · have ld : (0 : Int) < h.doors.length := by
      have := List.length_pos_iff.mpr hd
      omega
    have t2 := fun r rest => taken_ev (ns := ns) (r := r) (rest := rest) ld
    have q := mod_lt (x := raw ns (nxt ns (nxt ns r))) ld
    obtain ⟨k, ek⟩ : ∃ k : Nat, raw ns (nxt ns (nxt ns r)) % (h.doors.length : Int) = (k : Int) := ⟨(raw ns (nxt ns (nxt ns r)) % (h.doors.length : Int)).toNat, by omega⟩
    have hk : k < h.doors.length := by omega
    have eD : ∀ u rh, tTp 5 u (dDor (h.Dr k)) rh = u [.int (h.Dr k).one, .int (h.Dr k).oth, .int (h.Dr k).wide, .int (h.Dr k).ope, .int (h.Dr k).shu] rh := fun _ _ => rfl
    have ok := H.dor _ (List.mem_of_getElem? (Hou.Dr_of hk))
    obtain ⟨c1, c2, c3⟩ := cut_dor H hk
    have nd : ∀ mu : Mu, neD mu (.lst (h.doors.map dDor)) (.lst []) = some (.bl true) := fun mu => by
      rw [o_neP (pl_doors _) rfl, same_nil]
      cases hq : h.doors with
      | nil => exact absurd hq hd
      | cons d l => rfl
    have q2 := mod_lt (x := raw ns (nxt ns (nxt ns (nxt ns r)))) (m := 2) (by omega)
    have : raw ns (nxt ns (nxt ns (nxt ns r))) % 2 = 0 ∨ raw ns (nxt ns (nxt ns (nxt ns r))) % 2 = 1 := by omega
    rcases this with e2 | e2
    · obtain ⟨H', E'⟩ := ease_dor H hk (d := ⟨(h.Dr k).one, (h.Dr k).oth, 4, (h.Dr k).ope, (h.Dr k).shu⟩) { ok with w1 := by show (1 : Int) ≤ 4; omega, w4 := Int.le_refl _ } rfl rfl ok.w4 (Int.le_refl _) (Int.le_refl _)
      refine ⟨_, nxt ns (nxt ns (nxt ns (nxt ns r))), H', E', ?_⟩
      simp [m_lw_easier, taken_ev, hw, t1, t2, ea, eH, eP, eD, Hou.P_of ha, Hou.Dr_of hk, c1, c2, c3, nd, ek, e2, -List.map_set]
      simp [dH, hF]
    · obtain ⟨H', E'⟩ := ease_dor H hk (d := ⟨(h.Dr k).one, (h.Dr k).oth, (h.Dr k).wide, 0, 8⟩) { ok with p0 := Int.le_refl _, ps := by show (0 : Int) < 8; omega, s8 := Int.le_refl _ } rfl rfl (Int.le_refl _) ok.p0 ok.s8
      refine ⟨_, nxt ns (nxt ns (nxt ns (nxt ns r))), H', E', ?_⟩
      simp [m_lw_easier, taken_ev, hw, t1, t2, ea, eH, eP, eD, Hou.P_of ha, Hou.Dr_of hk, c1, c2, c3, nd, ek, e2, -List.map_set]
      simp [dH, hF]
  · have z4 := H.z4
    obtain ⟨H', E'⟩ := ease_add H (d := ⟨0, h.zones - 1, 4, 0, 8⟩) ⟨Int.le_refl _, by show (0 : Int) < h.zones - 1; omega, by show h.zones - 1 < h.zones; omega, by show (1 : Int) ≤ 4; omega, Int.le_refl _, Int.le_refl _, by show (0 : Int) < 8; omega, Int.le_refl _⟩ hl
    refine ⟨_, nxt ns (nxt ns r), H', E', ?_⟩
    have l6 : (h.doors.length : Int) < 6 := by omega
    have ll : ∀ d, lim (h.doors.length + 1) d = some d := fun d => lim_ok (by omega)
    simp [m_lw_easier, taken_ev, hw, t1, ea, eH, eP, Hou.P_of ha, hz, l6, ll]
    simp [dH, hF, dDor]
  · have h8 := H.h8
    have eM : ∀ mu : Mu, minD mu [.int 8, .int (h.hours + 1)] = some (.int (if h.hours + 1 < 8 then h.hours + 1 else 8)) := fun _ => rfl
    obtain ⟨H', E'⟩ := ease_hours H (n := if h.hours + 1 < 8 then h.hours + 1 else 8) (by split <;> omega) (by split <;> omega)
    refine ⟨_, nxt ns (nxt ns r), H', E', ?_⟩
    simp [m_lw_easier, taken_ev, hw, t1, ea, eH, eP, Hou.P_of ha, eM]
    simp [dH, hF]
theorem eased_ev : Eased ns r h := by
  have q := mod_lt (x := raw ns r) (m := 6) (by omega)
  by_cases c0 : raw ns r % 6 = 0
  · by_cases d : h.doors = []
    · exact eased_per H (.inl ⟨c0, d⟩)
    · exact eased_dor H (.inl ⟨c0, d⟩)
  by_cases c1 : raw ns r % 6 = 1
  · by_cases d : 1 < h.zones ∧ h.doors.length < 6
    · exact eased_dor H (.inr (.inl ⟨c1, d⟩))
    · exact eased_per H (.inr (.inl ⟨c1, d⟩))
  by_cases c5 : raw ns r % 6 = 5
  · exact eased_dor H (.inr (.inr c5))
  exact eased_per H (.inr (.inr (by omega)))
end
end Eb

/-! Eb: people in another order. -/
namespace Eb
open PySem L2
theorem subsA_cons (lo : Nat) : ∀ k, ∃ l, subsA lo k = [] :: l
  | 0 => ⟨_, rfl⟩
  | k + 1 => ⟨_, rfl⟩
theorem subsA_mem : ∀ (k lo : Nat) (g : List Nat), g.Pairwise (· < ·) → (∀ x ∈ g, lo ≤ x ∧ x < lo + k) → g ∈ subsA lo k
  | 0, lo, g, _, h => by
    cases g with
    | nil => exact List.mem_cons_self
    | cons a l => have := h a List.mem_cons_self; omega
  | k + 1, lo, [], _, _ => List.mem_cons_self
  | k + 1, lo, a :: l, pw, h => by
    rw [List.pairwise_cons] at pw
    have ha := h a List.mem_cons_self
    show a :: l ∈ [] :: ((subsA (lo + 1) k).map (lo :: ·) ++ (subsA (lo + 1) k).tail)
    refine List.mem_cons_of_mem _ (List.mem_append.mpr ?_)
    by_cases e : a = lo
    · subst e
      refine .inl (List.mem_map.mpr ⟨l, subsA_mem k (a + 1) l pw.2 fun x hx => ?_, rfl⟩)
      have := h x (List.mem_cons_of_mem _ hx)
      have := pw.1 x hx
      omega
    · have m := subsA_mem k (lo + 1) (a :: l) (List.pairwise_cons.mpr pw) fun x hx => by
        have h1 := h x hx
        rcases List.mem_cons.mp hx with rfl | hx
        · omega
        · have := pw.1 x hx; omega
      obtain ⟨t, et⟩ := subsA_cons (lo + 1) k
      rw [et] at m ⊢
      rcases List.mem_cons.mp m with z | m
      · cases z
      · exact .inr m
theorem grps_all {n : Nat} {g : List Nat} (h1 : ∀ k ∈ g, k < n) (h2 : g ≠ []) (h3 : g.Pairwise (· < ·)) : g ∈ grps n := by
  have m := subsA_mem n 0 g h3 fun x hx => ⟨Nat.zero_le _, by have := h1 x hx; omega⟩
  obtain ⟨t, et⟩ := subsA_cons 0 n
  unfold grps
  rw [et] at m ⊢
  rcases List.mem_cons.mp m with z | m
  · exact absurd z h2
  · exact m
theorem steps_all {h : Hou} {hour : Int} {st : List Int} {s : Stp} (ok : StpOk h s) (e : h.bar hour st s = none) : s ∈ h.steps hour st := by
  unfold Hou.steps Hou.stepsN
  cases s with
  | wait => exact List.mem_cons_self
  | go d g =>
    refine List.mem_cons_of_mem _ (List.mem_flatMap.mpr ⟨d, List.mem_range.mpr ok.1, ?_⟩)
    unfold Hou.stepsD
    refine List.mem_map.mpr ⟨g, List.mem_filter.mpr ⟨grps_all ok.2.lt ok.2.ne ok.2.up, ?_⟩, rfl⟩
    rw [e]
    rfl
/-! ### a step that nothing bars, in one word -/
structure NoBar (h : Hou) (hour : Int) (st : List Int) (D : Dor) (g : List Nat) (z : Int) : Prop where
  open_ : D.ope ≤ hour ∧ hour < D.shu
  late : ∀ n ∈ g, (h.P n).since ≤ hour
  same : ∀ n ∈ g, S st n = z
  at_ : g ≠ [] → z = D.one ∨ z = D.oth
  wide : (g.length : Int) ≤ D.wide
  may : ∀ n ∈ g, (h.P n).may (D.one + D.oth - z) = true
  led : ((h.bound g [z, D.one + D.oth - z]).length : Int) ≤ h.hands g [z, D.one + D.oth - z]
  left : h.left (mv st g (D.one + D.oth - z)) = none
theorem away_iff {h : Hou} {st : List Int} {num : Nat} {z : Int} {g : List Nat} : g.find? (h.away st num z) = none ↔ (∀ n ∈ g, S st n = z) ∧ (g ≠ [] → z = (h.Dr num).one ∨ z = (h.Dr num).oth) := by
  rw [List.find?_eq_none]
  unfold Hou.away
  constructor
  · intro k
    have k2 : ∀ n ∈ g, S st n = z ∧ (z = (h.Dr num).one ∨ z = (h.Dr num).oth) := fun n hn => by
      have := k n hn
      by_cases c1 : S st n = z <;> by_cases c2 : z = (h.Dr num).one <;> by_cases c3 : z = (h.Dr num).oth <;> simp [c1, c2, c3] at this ⊢ <;> omega
    refine ⟨fun n hn => (k2 n hn).1, fun ne => ?_⟩
    cases g with
    | nil => exact absurd rfl ne
    | cons a l => exact (k2 a List.mem_cons_self).2
  · rintro ⟨k1, k2⟩ n hn
    have c1 := k1 n hn
    have c2 := k2 (List.ne_nil_of_mem hn)
    rw [c1]
    rcases c2 with c | c <;> simp [c]
theorem bar_iff {h : Hou} {hour : Int} {st : List Int} {num : Nat} {g : List Nat} : h.bar hour st (.go num g) = none ↔ NoBar h hour st (h.Dr num) g (S st (g.headD 0)) := by
  show h.barGo hour st num g (S st (g.headD 0)) = none ↔ _
  generalize S st (g.headD 0) = z
  have hl : g.find? (h.late hour) = none ↔ ∀ n ∈ g, (h.P n).since ≤ hour := by
    rw [List.find?_eq_none]
    unfold Hou.late
    simp
  have hm : ∀ th, g.find? (h.strange th) = none ↔ ∀ n ∈ g, (h.P n).may th = true := fun th => by
    rw [List.find?_eq_none]
    unfold Hou.strange
    simp
  constructor
  · intro e
    unfold Hou.barGo at e
    split at e
    · rename_i ho
      split at e
      · cases e
      · rename_i h1
        unfold Hou.barA at e
        split at e
        · cases e
        · rename_i h2
          unfold Hou.barW at e
          split at e
          · cases e
          · rename_i h3
            rw [Hou.barG_eq] at e
            split at e
            · cases e
            · rename_i h4
              unfold Hou.barH at e
              split at e
              · cases e
              · rename_i h5
                split at e
                · cases e
                · rename_i h6
                  have h2 := away_iff.mp h2
                  exact ⟨ho, hl.mp h1, h2.1, h2.2, by omega, (hm _).mp h4, Int.not_lt.mp h5, h6⟩
    · cases e
  · intro k
    unfold Hou.barGo
    rw [if_pos k.open_, hl.mpr k.late]
    show h.barA st num g z = none
    unfold Hou.barA
    rw [away_iff.mpr ⟨k.same, k.at_⟩]
    show h.barW st num g z = none
    unfold Hou.barW
    have := k.wide
    rw [if_neg (by omega), Hou.barG_eq, (hm _).mpr k.may]
    show h.barH st g z _ = none
    unfold Hou.barH
    rw [if_neg (Int.not_lt.mpr k.led), k.left]
/-! ### another order -/
theorem ndP {α : Type} [DecidableEq α] {l m : List α} (h1 : l.Nodup) (h2 : m.Nodup) (h : ∀ a, a ∈ l ↔ a ∈ m) : l.Perm m := by
  rw [List.perm_iff_count]
  intro a
  rw [h1.count, h2.count]
  by_cases c : a ∈ l
  · rw [if_pos c, if_pos ((h a).mp c)]
  · rw [if_neg c, if_neg (fun z => c ((h a).mpr z))]
theorem perm_sum {l m : List Int} (h : l.Perm m) : l.sum = m.sum := by
  induction h with
  | nil => rfl
  | cons a _ ih => simp [ih]
  | swap a b l => simp; omega
  | trans _ _ ih1 ih2 => rw [ih1, ih2]
structure Turn (h h' : Hou) (f g : Nat → Nat) : Prop where
  pl : h'.people.length = h.people.length
  fl : ∀ k < h.people.length, f k < h.people.length
  gl : ∀ k < h.people.length, g k < h.people.length
  gf : ∀ k < h.people.length, g (f k) = k
  fg : ∀ k < h.people.length, f (g k) = k
  P : ∀ k < h.people.length, h'.P k = h.P (f k)
  dr : ∀ d < h.doors.length, ∃ d', d' < h'.doors.length ∧ h'.Dr d' = h.Dr d
  dr' : ∀ d < h'.doors.length, ∃ d', d' < h.doors.length ∧ h.Dr d' = h'.Dr d
def turn (f : Nat → Nat) (st : List Int) : List Int := (List.range st.length).map fun k => S st (f k)
theorem turn_len {f : Nat → Nat} {st : List Int} : (turn f st).length = st.length := by simp [turn]
theorem S_turn {f : Nat → Nat} {st : List Int} {k : Nat} (h : k < st.length) : S (turn f st) k = S st (f k) := by
  show ((turn f st)[k]?).getD 0 = _
  unfold turn
  rw [List.getElem?_map, List.getElem?_range h]
  rfl
theorem S_ext {a b : List Int} (l : a.length = b.length) (h : ∀ k < a.length, S a k = S b k) : a = b := by
  apply List.ext_getElem?
  intro k
  by_cases c : k < a.length
  · rw [S_of c, S_of (l ▸ c), h k c]
  · rw [List.getElem?_eq_none (by omega), List.getElem?_eq_none (by omega)]
section
variable {h h' : Hou} {f g : Nat → Nat} (T : Turn h h' f g)
include T
theorem Turn.symm : Turn h' h g f := by
  have e := T.pl
  exact ⟨e.symm, fun k hk => by rw [e] at hk ⊢; exact T.gl k hk, fun k hk => by rw [e] at hk ⊢; exact T.fl k hk, fun k hk => by rw [e] at hk; exact T.fg k hk, fun k hk => by rw [e] at hk; exact T.gf k hk,
    fun k hk => by rw [e] at hk; rw [T.P _ (T.gl k hk), T.fg k hk], T.dr', T.dr⟩
theorem Turn.turn_turn {st : List Int} (hs : st.length = h.people.length) : turn g (turn f st) = st := by
  refine S_ext (by rw [turn_len, turn_len]) fun k hk => ?_
  rw [turn_len, turn_len] at hk
  rw [S_turn (by rw [turn_len]; exact hk), S_turn (by rw [hs]; exact T.gl k (hs ▸ hk)), T.fg k (hs ▸ hk)]
theorem Turn.stat {st : List Int} (z : h'.zones = h.zones) (k : Stat h st) : Stat h' (turn f st) := ⟨by rw [turn_len, k.len, T.pl], fun n hn => by
  rw [turn_len] at hn
  rw [S_turn hn, z]
  exact k.rng _ (by rw [k.len]; exact T.fl n (k.len ▸ hn))⟩
theorem Turn.permR : ((List.range h.people.length).map f).Perm (List.range h.people.length) := by
  refine ndP ?_ List.nodup_range fun k => ?_
  · rw [List.nodup_iff_pairwise_ne, List.pairwise_map]
    refine (List.pairwise_lt_range (n := h.people.length)).imp_of_mem fun {a b} ha hb lt e => ?_
    have e1 := T.gf a (List.mem_range.mp ha)
    have e2 := T.gf b (List.mem_range.mp hb)
    rw [e, e2] at e1
    omega
  · rw [List.mem_map, List.mem_range]
    constructor
    · rintro ⟨j, hj, rfl⟩
      exact T.fl j (List.mem_range.mp hj)
    · intro hk
      exact ⟨g k, List.mem_range.mpr (T.gl k hk), T.fg k hk⟩
theorem Turn.filt (q : Nat → Bool) : (((List.range h.people.length).filter fun k => q (f k)).map f).Perm ((List.range h.people.length).filter q) := by
  have : ((List.range h.people.length).filter fun k => q (f k)).map f = ((List.range h.people.length).map f).filter q := by
    rw [List.filter_map]
    rfl
  rw [this]
  exact T.permR.filter q
end
/-- some of the one order, the same of the other one -/
structure Same (h h' : Hou) (f : Nat → Nat) (ps' ps : List Nat) : Prop where
  lt : ∀ k ∈ ps', k < h.people.length
  perm : (ps'.map f).Perm ps
def Hou.bP (h : Hou) (zs : List Int) (n : Nat) : Bool := !(zs.filter fun z => !(h.P n).isFree z).isEmpty
theorem bound_bP {h : Hou} {ps : List Nat} {zs : List Int} : h.bound ps zs = ps.filter (h.bP zs) := rfl
theorem hands_bP {h : Hou} {ps : List Nat} {zs : List Int} : h.hands ps zs = ((ps.filter fun n => !h.bP zs n).map fun n => (h.P n).most).sum := by
  unfold Hou.hands
  congr 2
  apply List.filter_congr
  intro n hn
  rw [bound_bP]
  congr 1
  cases hb : h.bP zs n with
  | true => exact decide_eq_true (List.mem_filter.mpr ⟨hn, hb⟩)
  | false => exact decide_eq_false fun m => by rw [(List.mem_filter.mp m).2] at hb; cases hb
section
variable {h h' : Hou} {f g : Nat → Nat} (T : Turn h h' f g) {ps' ps : List Nat} (sm : Same h h' f ps' ps)
include T sm
theorem Turn.filS {p p' : Nat → Bool} (e : ∀ k < h.people.length, p' k = p (f k)) : Same h h' f (ps'.filter p') (ps.filter p) := by
  refine ⟨fun k hk => sm.lt k (List.mem_filter.mp hk).1, ?_⟩
  have : (ps'.filter p').map f = (ps'.map f).filter p := by
    rw [List.filter_map]
    congr 1
    apply List.filter_congr
    intro k hk
    exact e k (sm.lt k hk)
  rw [this]
  exact sm.perm.filter p
theorem Same.len : ps'.length = ps.length := by
  have := sm.perm.length_eq
  rwa [List.length_map] at this
theorem Same.sum {a a' : Nat → Int} (e : ∀ k < h.people.length, a' k = a (f k)) : (ps'.map a').sum = (ps.map a).sum := by
  have p := perm_sum (sm.perm.map a)
  rw [List.map_map] at p
  rw [← p]
  congr 1
  apply List.map_congr_left
  intro k hk
  exact e k (sm.lt k hk)
theorem Turn.bP (zs : List Int) : ∀ k < h.people.length, h'.bP zs k = h.bP zs (f k) := fun k hk => by
  unfold Hou.bP
  rw [T.P k hk]
theorem Turn.boundL (zs : List Int) : (h'.bound ps' zs).length = (h.bound ps zs).length := by
  rw [bound_bP, bound_bP]
  exact Same.len T (T.filS sm (T.bP sm zs))
theorem Turn.hands (zs : List Int) : h'.hands ps' zs = h.hands ps zs := by
  rw [hands_bP, hands_bP]
  exact Same.sum T (T.filS sm (p := fun n => !h.bP zs n) (p' := fun n => !h'.bP zs n) fun k hk => by rw [T.bP sm zs k hk]) fun k hk => by rw [T.P k hk]
end
section
variable {h h' : Hou} {f g : Nat → Nat} (T : Turn h h' f g)
include T
theorem Turn.here {st : List Int} (hs : st.length = h.people.length) (z : Int) : Same h h' f (here (turn f st) z) (here st z) := by
  refine ⟨fun k hk => ?_, ?_⟩
  · have := here_lt hk
    rw [turn_len] at this
    omega
  · have e : Eb.here (turn f st) z = (List.range h.people.length).filter fun k => decide (S st (f k) = z) := by
      unfold Eb.here
      rw [turn_len, hs]
      apply List.filter_congr
      intro k hk
      rw [S_turn (by rw [hs]; exact List.mem_range.mp hk)]
    rw [e]
    unfold Eb.here
    rw [hs]
    exact T.filt fun n => decide (S st n = z)
theorem Turn.leftP {st : List Int} (hs : st.length = h.people.length) {k : Nat} (hk : k < h.people.length) : h'.leftP (turn f st) k = h.leftP st (f k) := by
  unfold Hou.leftP
  rw [S_turn (by omega), T.P k hk, T.hands (T.here hs _), T.boundL (T.here hs _)]
theorem Turn.left {st : List Int} (hs : st.length = h.people.length) (l : h.left st = none) : h'.left (turn f st) = none := by
  unfold Hou.left at l ⊢
  rw [List.find?_eq_none] at l ⊢
  intro k hk
  rw [turn_len, hs] at hk
  have hk := List.mem_range.mp hk
  rw [T.leftP hs hk]
  exact l (f k) (List.mem_range.mpr (by rw [hs]; exact T.fl k hk))
theorem Turn.met {st : List Int} (hs : st.length = h.people.length) (m : h.met st = true) : h'.met (turn f st) = true := by
  unfold Hou.met at m ⊢
  rw [List.all_eq_true] at m ⊢
  intro k hk
  rw [turn_len, hs] at hk
  have hk := List.mem_range.mp hk
  have := m (f k) (List.mem_range.mpr (by rw [hs]; exact T.fl k hk))
  unfold Hou.metP at this ⊢
  rw [S_turn (by omega), T.P k hk]
  exact this
/-- the group in the other order -/
def newG (m : Nat) (f : Nat → Nat) (gr : List Nat) : List Nat := (List.range m).filter fun k => decide (f k ∈ gr)
theorem Turn.same {gr : List Nat} (G : GrpOk h gr) : Same h h' f (newG h.people.length f gr) gr := by
  refine ⟨fun k hk => List.mem_range.mp (List.mem_filter.mp hk).1, ?_⟩
  refine (T.filt fun n => decide (n ∈ gr)).trans (ndP (List.nodup_range.filter _) (G.up.imp (fun h => Nat.ne_of_lt h)) fun k => ?_)
  rw [List.mem_filter, List.mem_range]
  constructor
  · exact fun z => of_decide_eq_true z.2
  · exact fun z => ⟨G.lt k z, decide_eq_true z⟩
theorem Turn.grp {gr : List Nat} (G : GrpOk h gr) : GrpOk h' (newG h.people.length f gr) := by
  have sm := T.same G
  refine ⟨fun k hk => by rw [T.pl]; exact sm.lt k hk, fun z => ?_, List.pairwise_lt_range.filter _⟩
  have := Same.len T sm
  rw [z] at this
  exact G.ne (List.eq_nil_of_length_eq_zero this.symm)
theorem Turn.mv {st : List Int} (hs : st.length = h.people.length) (gr : List Nat) (z : Int) : turn f (mv st gr z) = mv (turn f st) (newG h.people.length f gr) z := by
  refine S_ext (by rw [turn_len, mv_len, mv_len, turn_len]) fun k hk => ?_
  rw [turn_len, mv_len] at hk
  have hk' : k < h.people.length := by omega
  rw [S_turn (by rw [mv_len]; exact hk), S_mv (by rw [hs]; exact T.fl k hk'), S_mv (by rw [turn_len]; exact hk), S_turn hk]
  have e : (k ∈ newG h.people.length f gr) = (f k ∈ gr) := by
    unfold newG
    rw [List.mem_filter, List.mem_range]
    exact propext ⟨fun z => of_decide_eq_true z.2, fun z => ⟨hk', decide_eq_true z⟩⟩
  simp only [e]
theorem Turn.step {hour : Int} {st : List Int} (k : Stat h st) {s : Stp} (hs : s ∈ h.steps hour st) (p4 : h.people.length ≤ 4) : ∃ s', s' ∈ h'.steps hour (turn f st) ∧ h'.next (turn f st) s' = turn f (h.next st s) ∧ h'.goings s' = h.goings s := by
  obtain ⟨ok, e⟩ := steps_mem p4 hs
  cases s with
  | wait => exact ⟨.wait, steps_all trivial rfl, rfl, rfl⟩
  | go d gr =>
    obtain ⟨hd, G⟩ := ok
    obtain ⟨d', hd', eD⟩ := T.dr d hd
    have sm := T.same G
    have G' := T.grp G
    have N := bar_iff.mp e
    have hm : (newG h.people.length f gr).headD 0 ∈ newG h.people.length f gr := by
      cases hq : newG h.people.length f gr with
      | nil => exact absurd hq G'.ne
      | cons a l => exact List.mem_cons_self
    have mem : ∀ j ∈ newG h.people.length f gr, j < h.people.length ∧ f j ∈ gr := fun j hj => ⟨sm.lt j hj, of_decide_eq_true (List.mem_filter.mp hj).2⟩
    have ez : S (turn f st) ((newG h.people.length f gr).headD 0) = S st (gr.headD 0) := by
      obtain ⟨q1, q2⟩ := mem _ hm
      rw [S_turn (by rw [k.len]; exact q1)]
      exact N.same _ q2
    have nb : h'.bar hour (turn f st) (.go d' (newG h.people.length f gr)) = none := by
      rw [bar_iff, ez, eD]
      refine ⟨N.open_, fun j hj => ?_, fun j hj => ?_, fun _ => N.at_ G.ne, ?_, fun j hj => ?_, ?_, ?_⟩
      · obtain ⟨q1, q2⟩ := mem j hj
        rw [T.P j q1]
        exact N.late _ q2
      · obtain ⟨q1, q2⟩ := mem j hj
        rw [S_turn (by rw [k.len]; exact q1)]
        exact N.same _ q2
      · rw [Same.len T sm]; exact N.wide
      · obtain ⟨q1, q2⟩ := mem j hj
        rw [T.P j q1]
        exact N.may _ q2
      · rw [T.boundL sm, T.hands sm]; exact N.led
      · rw [← T.mv k.len]
        exact T.left (by rw [mv_len]; exact k.len) N.left
    refine ⟨.go d' (newG h.people.length f gr), steps_all ⟨hd', G'⟩ nb, ?_, ?_⟩
    · show Eb.mv (turn f st) _ (h'.thOf (turn f st) d' _) = turn f (Eb.mv st gr (h.thOf st d gr))
      unfold Hou.thOf
      rw [ez, eD, T.mv k.len]
    · show ((newG h.people.length f gr).filter fun n => decide (0 < (h'.P n).most)).length = (gr.filter fun n => decide (0 < (h.P n).most)).length
      exact Same.len T (T.filS sm fun j hj => by rw [T.P j hj])
theorem Turn.row1 {hour : Int} {st : List Int} {n : Nat} (p4 : h.people.length ≤ 4) (ks : st.length = h.people.length) (kr : ∀ i ≤ n, RowOk h (h.rowAt hour st i)) : ∀ (i : Nat), i ≤ n → ∀ (x : List Int) (v : Int), getR (h.rowAt hour st i) x = some v → ∃ w, getR (h'.rowAt hour (turn f st) i) (turn f x) = some w ∧ w ≤ v
  | 0, _, x, v, hv => by
    have hv : (if st = x then some (0 : Int) else none) = some v := hv
    refine ⟨v, ?_, Int.le_refl _⟩
    show (if turn f st = turn f x then some (0 : Int) else none) = some v
    by_cases e : st = x
    · rw [if_pos e] at hv
      rw [if_pos (by rw [e]), hv]
    · rw [if_neg e] at hv
      cases hv
  | i + 1, hi, x, v, hv => by
    obtain ⟨st', s, _, m, ⟨q2, q3⟩, q4, q5⟩ := (goOn_inv (h := h) (hour + i) (h.rowAt hour st i)).why x v hv
    obtain ⟨w, r1, r2⟩ := Turn.row1 p4 ks kr i (by omega) st' m q2
    have kst := (kr i (by omega)).st st' ((get_some _ _).mp (by rw [q2]; rfl))
    obtain ⟨s', s1, s2, s3⟩ := T.step kst q3 p4
    obtain ⟨u, t1, t2⟩ := row_step r1 s1
    rw [s2, q4] at t1
    rw [s3] at t2
    exact ⟨u, t1, by omega⟩
end
section
variable {h h' : Hou} {f g : Nat → Nat} (T : Turn h h' f g)
include T
theorem Turn.row {hour : Int} {st : List Int} {n : Nat} (p4 : h.people.length ≤ 4) (ks : st.length = h.people.length) (kr : ∀ i ≤ n, RowOk h (h.rowAt hour st i)) (kr' : ∀ i ≤ n, RowOk h' (h'.rowAt hour (turn f st) i)) {i : Nat} (hi : i ≤ n) {x : List Int} (hx : x.length = h.people.length) :
    getR (h'.rowAt hour (turn f st) i) (turn f x) = getR (h.rowAt hour st i) x := by
  have T' := T.symm
  have b : ∀ v, getR (h'.rowAt hour (turn f st) i) (turn f x) = some v → ∃ w, getR (h.rowAt hour st i) x = some w ∧ w ≤ v := fun v hv => by
    have eT := T.turn_turn ks
    have eX := T.turn_turn hx
    have := T'.row1 (hour := hour) (st := turn f st) (n := n) (by rw [T.pl]; exact p4) (by rw [turn_len, T.pl]; exact ks) kr' i hi (turn f x) v hv
    rw [eT, eX] at this
    exact this
  cases h1 : getR (h'.rowAt hour (turn f st) i) (turn f x) with
  | some v =>
    obtain ⟨w, e1, e2⟩ := b v h1
    obtain ⟨u, e3, e4⟩ := T.row1 p4 ks kr i hi x w e1
    rw [h1] at e3
    have := Option.some.inj e3
    rw [e1]
    congr 1
    omega
  | none =>
    cases h2 : getR (h.rowAt hour st i) x with
    | none => rfl
    | some w =>
      obtain ⟨u, e3, _⟩ := T.row1 p4 ks kr i hi x w h2
      rw [h1] at e3
      cases e3
theorem Turn.best1 {hour : Int} {st : List Int} {n : Nat} (p4 : h.people.length ≤ 4) (ks : st.length = h.people.length) (kr : ∀ i ≤ n, RowOk h (h.rowAt hour st i)) {k : Key3} (hk : h.best hour st n = some k) : ∃ k', h'.best hour (turn f st) n = some k' ∧ k'.1 ≤ k.1 := by
  obtain ⟨q1, q2, q3⟩ := (best_is (h := h) (hour := hour) (st := st) (n := n)).why k hk
  obtain ⟨w, r1, r2⟩ := T.row1 p4 ks kr _ q1 _ _ q2
  have kst := (kr _ q1).st _ ((get_some _ _).mp (by rw [q2]; rfl))
  obtain ⟨k', s1, s2⟩ := (best_is (h := h') (hour := hour) (st := turn f st) (n := n)).low _ q1 _ _ r1 (T.met kst.len q3)
  exact ⟨k', s1, by omega⟩
theorem Turn.best {hour : Int} {st : List Int} {n : Nat} (p4 : h.people.length ≤ 4) (ks : st.length = h.people.length) (kr : ∀ i ≤ n, RowOk h (h.rowAt hour st i)) (kr' : ∀ i ≤ n, RowOk h' (h'.rowAt hour (turn f st) i)) :
    (h'.best hour (turn f st) n).map (·.1) = (h.best hour st n).map (·.1) := by
  have T' := T.symm
  have b : ∀ k, h'.best hour (turn f st) n = some k → ∃ k', h.best hour st n = some k' ∧ k'.1 ≤ k.1 := fun k hk => by
    have eT := T.turn_turn ks
    have := T'.best1 (hour := hour) (st := turn f st) (n := n) (by rw [T.pl]; exact p4) (by rw [turn_len, T.pl]; exact ks) kr' hk
    rw [eT] at this
    exact this
  cases h1 : h'.best hour (turn f st) n with
  | some k =>
    obtain ⟨k', e1, e2⟩ := b k h1
    obtain ⟨k2, e3, e4⟩ := T.best1 p4 ks kr e1
    rw [h1] at e3
    cases e3
    rw [e1]
    show some k.1 = some k'.1
    congr 1
    omega
  | none =>
    cases h2 : h.best hour st n with
    | none => rfl
    | some w =>
      obtain ⟨u, e3, _⟩ := T.best1 p4 ks kr h2
      rw [h1] at e3
      cases e3
end
end Eb

/-! Eb: the law's other order is drawn. -/
namespace Eb
open PySem L2
def orC : M Bool := mTest (mOp neD (mVar 3) (mLst (mNil)))
def orB : MS := sDrop (mBM isCell appF (mVar 4) (mCons (mBM isCell popF (mVar 3) (mCons (mCall m_lw_taken (mCons (mVar 1) (mCons (mCB (pureF lenD) (mCons (mVar 3) (mNil))) (mNil)))) (mNil))) (mNil)))
def orRh (ns : List Int) (h : Hou) : Rho := [some (.scr ns), some (.cel 0), some (dH h), some (.cel 1), some (.cel 2), none, none, none, none, none, none, none, none, none, none]
@[simp] theorem v_pop {k : Nat} {i : Int} {mu : Mu} : popF (.cel k) [.int i] mu = (match mu[k]? with | some (.lst xs) => if 0 ≤ i ∧ i ≤ 1000 then (xs[i.toNat]?).map fun x => (x, mu.set k (.lst (xs.eraseIdx i.toNat))) else none | _ => none) := rfl
theorem orC_ev {ns : List Int} {h : Hou} {r : Row} {l o : List Nat} : orC (orRh ns h) [rowD ns r, .lst (dN l), .lst (dN o)] = some (.ok (!l.isEmpty), [rowD ns r, .lst (dN l), .lst (dN o)]) := by
  have e : neD [rowD ns r, .lst (dN l), .lst (dN o)] (.cel 1) (.lst []) = some (.bl (!l.isEmpty)) := by
    rw [o_neC (ds := dN l) rfl]
    exact o_neNilN
  simp [orC, orRh, e]
theorem ers_perm {l : List Nat} {j : Nat} (h : j < l.length) : (l[j] :: l.eraseIdx j).Perm l := by
  rw [List.eraseIdx_eq_take_drop_succ]
  have e : l = l.take j ++ l[j] :: l.drop (j + 1) := by rw [List.getElem_cons_drop, List.take_append_drop]
  conv => rhs; rw [e]
  exact List.perm_middle.symm
theorem orB_ev {ns : List Int} {h : Hou} {r : Row} {l o : List Nat} (hl : l ≠ []) (l4 : l.length ≤ 4) (o4 : o.length ≤ 4) : ∃ (l' : List Nat) (x : Nat) (r' : Row), orB (orRh ns h) [rowD ns r, .lst (dN l), .lst (dN o)] = some (.nx (orRh ns h), [rowD ns r', .lst (dN l'), .lst (dN (o ++ [x]))]) ∧ (x :: l').Perm l ∧ l'.length + 1 = l.length := by
  have pl := List.length_pos_iff.mpr hl
  have lp : (0 : Int) < l.length := by omega
  have t1 := fun r rest => taken_ev (ns := ns) (r := r) (rest := rest) lp
  have q := mod_lt (x := raw ns r) lp
  obtain ⟨j, ej⟩ : ∃ j : Nat, raw ns r % (l.length : Int) = (j : Int) := ⟨(raw ns r % (l.length : Int)).toNat, by omega⟩
  have hj : j < l.length := by omega
  have ex : (dN l)[j]? = some (.int (l[j] : Int)) := by simp [dN, hj]
  have ee : (dN l).eraseIdx j = dN (l.eraseIdx j) := by
    unfold dN
    rw [List.eraseIdx_eq_take_drop_succ, List.eraseIdx_eq_take_drop_succ, List.map_append, List.map_take, List.map_drop]
  have j3 : (j : Int) ≤ 1000 := by omega
  have ol : o.length < 100000 := by omega
  refine ⟨l.eraseIdx j, l[j], nxt ns r, ?_, ers_perm hj, by rw [List.length_eraseIdx_of_lt hj]; omega⟩
  have eo : dN (o ++ [l[j]]) = dN o ++ [.int (l[j] : Int)] := by simp [dN]
  rw [eo]
  have ll : (dN l).length = l.length := by simp [dN]
  have lo : (dN o).length < 100000 := by simp [dN]; omega
  generalize dN o = O at *
  generalize hL : dN l = L at *
  rw [← ll] at t1 ej
  have t2 := t1 r [.lst L, .lst O]
  rw [ej] at t2
  have lE : lenD [rowD ns r, .lst L, .lst O] [.cel 1] = some (.int (L.length : Int)) := rfl
  simp [orB, orRh, lE, t2, j3, ex, ee, lo]
theorem or_loop {ns : List Int} {h : Hou} : ∀ (n : Nat) (l o : List Nat) (r : Row), l.length < n → l.length + o.length ≤ 4 → ∃ (o' : List Nat) (r' : Row), loopW orC orB n (orRh ns h) [rowD ns r, .lst (dN l), .lst (dN o)] = some (.nx (orRh ns h), [rowD ns r', .lst [], .lst (dN o')]) ∧ o'.Perm (o ++ l)
  | 0, l, o, r, hn, _ => by omega
  | n + 1, [], o, r, _, _ => by
    refine ⟨o, r, ?_, by simp⟩
    unfold loopW
    rw [bindS_ok orC_ev]
    rfl
  | n + 1, a :: l, o, r, hn, h4 => by
    obtain ⟨l', x, r1, e1, p1, len⟩ := orB_ev (ns := ns) (h := h) (r := r) (l := a :: l) (o := o) (by simp) (by omega) (by omega)
    have hl : (a :: l).length = l.length + 1 := rfl
    obtain ⟨o', r', e2, p2⟩ := or_loop n l' (o ++ [x]) r1 (by omega) (by simp; omega)
    refine ⟨o', r', ?_, p2.trans ?_⟩
    · unfold loopW
      rw [bindS_ok orC_ev]
      show (match orB (orRh ns h) [rowD ns r, .lst (dN (a :: l)), .lst (dN o)] with
        | some (.nx r, mu1) => loopW orC orB n r mu1
        | some (.ct r, mu1) => loopW orC orB n r mu1
        | some (.bk r, mu1) => some (.nx r, mu1)
        | o => o) = _
      rw [e1]
      exact e2
    · rw [List.append_assoc]
      exact List.Perm.append_left o p1
/-! ### the other house -/
theorem dr_mem {h : Hou} {d : Dor} (hd : d ∈ h.doors) : ∃ n, n < h.doors.length ∧ h.Dr n = d := by
  obtain ⟨n, hn, e⟩ := List.mem_iff_getElem.mp hd
  refine ⟨n, hn, ?_⟩
  unfold Hou.Dr
  rw [List.getElem?_eq_getElem hn, e]
  rfl
theorem turn_mk {h : Hou} (H : HouOk h) {o : List Nat} (po : o.Perm (List.range h.people.length)) {ds : List Dor} (hd : ∀ x, x ∈ ds ↔ x ∈ h.doors) (d6 : ds.length ≤ 6) :
    HouOk ⟨h.zones, h.hours, ds, o.map h.P⟩ ∧ Turn h ⟨h.zones, h.hours, ds, o.map h.P⟩ (fun k => (o[k]?).getD 0) (fun k => o.idxOf k) ∧ (∀ st : List Int, st.length = h.people.length → turn (fun k => (o[k]?).getD 0) st = o.map (S st)) ∧ (⟨h.zones, h.hours, ds, o.map h.P⟩ : Hou).begs = turn (fun k => (o[k]?).getD 0) h.begs := by
  have ol : o.length = h.people.length := by rw [po.length_eq, List.length_range]
  have om : ∀ n, n ∈ o ↔ n < h.people.length := fun n => by rw [po.mem_iff, List.mem_range]
  have ond : o.Nodup := po.nodup_iff.mpr List.nodup_range
  have og : ∀ k (hk : k < h.people.length), (o[k]?).getD 0 = o[k] := fun k hk => by rw [List.getElem?_eq_getElem (by omega)]; rfl
  have T : Turn h ⟨h.zones, h.hours, ds, o.map h.P⟩ (fun k => (o[k]?).getD 0) (fun k => o.idxOf k) := by
    refine ⟨by simp [ol], fun k hk => ?_, fun k hk => ?_, fun k hk => ?_, fun k hk => ?_, fun k hk => ?_, fun d hd' => ?_, fun d hd' => ?_⟩
    · show (o[k]?).getD 0 < _
      rw [og k hk]
      exact (om _).mp (List.getElem_mem _)
    · show o.idxOf k < _
      rw [← ol]
      exact List.idxOf_lt_length_iff.mpr ((om k).mpr hk)
    · show o.idxOf ((o[k]?).getD 0) = k
      rw [og k hk]
      exact ond.idxOf_getElem k (by omega)
    · show (o[o.idxOf k]?).getD 0 = k
      have := List.idxOf_lt_length_iff.mpr ((om k).mpr hk)
      rw [List.getElem?_eq_getElem this, List.getElem_idxOf this]
      rfl
    · show ((o.map h.P)[k]?).getD _ = h.P ((o[k]?).getD 0)
      rw [List.getElem?_map, List.getElem?_eq_getElem (by omega)]
      rfl
    · exact dr_mem (h := ⟨h.zones, h.hours, ds, o.map h.P⟩) ((hd _).mpr (List.mem_of_getElem? (Hou.Dr_of hd')))
    · exact dr_mem ((hd _).mp (List.mem_of_getElem? (Hou.Dr_of (h := ⟨h.zones, h.hours, ds, o.map h.P⟩) hd')))
  have et : ∀ st : List Int, st.length = h.people.length → turn (fun k => (o[k]?).getD 0) st = o.map (S st) := fun st hs => by
    apply List.ext_getElem?
    intro k
    unfold turn
    rw [List.getElem?_map, List.getElem?_map]
    by_cases c : k < h.people.length
    · rw [List.getElem?_range (by omega), List.getElem?_eq_getElem (show k < o.length by omega)]
      show some (S st ((o[k]?).getD 0)) = some (S st o[k])
      rw [og k c]
    · rw [List.getElem?_eq_none (by rw [List.length_range]; omega), List.getElem?_eq_none (by omega)]
      rfl
  have pp : (o.map h.P).Perm h.people := by
    have := po.map h.P
    have e : (List.range h.people.length).map h.P = h.people := by
      apply List.ext_getElem?
      intro k
      rw [List.getElem?_map]
      by_cases c : k < h.people.length
      · rw [List.getElem?_range c, Hou.P_of c]
        rfl
      · rw [List.getElem?_eq_none (by rw [List.length_range]; omega), List.getElem?_eq_none (by omega)]
        rfl
    rw [e] at this
    exact this
  have k := begs_stat H
  have eb : (o.map h.P).map (·.beg) = o.map (S h.begs) := by
    rw [List.map_map]
    apply List.map_congr_left
    intro n hn
    have hn := (om n).mp hn
    show (h.P n).beg = ((h.people.map (·.beg))[n]?).getD 0
    rw [List.getElem?_map, Hou.P_of hn]
    rfl
  refine ⟨⟨H.z1, H.z4, H.h0, H.h8, d6, fun d hm => H.dor d ((hd d).mp hm), ?_, ?_, fun p hm => H.per p (pp.mem_iff.mp hm), ?_, ?_⟩, T, et, by rw [et h.begs k.len]; exact eb⟩
  · show 1 ≤ (o.map h.P).length
    rw [List.length_map, ol]; exact H.p1
  · show (o.map h.P).length ≤ 4
    rw [List.length_map, ol]; exact H.p4
  · exact (pp.map (·.name)).nodup_iff.mpr H.nms
  · have l := T.left (st := h.begs) k.len H.left
    rw [et h.begs k.len] at l
    show Hou.left _ ((o.map h.P).map (·.beg)) = none
    rw [eb]
    exact l
end Eb

/-! Eb: loops and comprehensions whose target is more than one name. -/
namespace Eb
open PySem L2
section
variable {t : Tg} {c : M Bool} {m : ME} {rh0 : Rho} {mu : Mu} {own : List Nat} {it : M (List D)} {rh : Rho}
theorem lcT_map {α : Type} {ds : List α} {f : α → D} (G : α → Rho) (p : α → Bool) (g : α → D) (ht : ∀ a ∈ ds, t (f a) rh0 = some (G a)) (hc : ∀ a ∈ ds, c (G a) mu = some (.ok (p a), mu)) (hm : ∀ a ∈ ds, p a = true → m (G a) mu = some (.ok (g a), mu)) :
    lcLoop t c m rh0 (ds.map f) mu = some (((ds.filter p).map g), mu) := by
  induction ds with
  | nil => rfl
  | cons a ds ih =>
    have h0 := ht a List.mem_cons_self
    have h1 := hc a List.mem_cons_self
    have ih := ih (fun b hb => ht b (List.mem_cons_of_mem _ hb)) (fun b hb => hc b (List.mem_cons_of_mem _ hb)) (fun b hb => hm b (List.mem_cons_of_mem _ hb))
    show (match t (f a) rh0 with
      | none => none
      | some rh1 => match c rh1 mu with
        | some (.ok true, mu1) => (match m rh1 mu1 with
          | some (.ok y, mu2) => (lcLoop t c m rh0 (ds.map f) mu2).map fun (p : List D × Mu) => (y :: p.1, p.2)
          | _ => none)
        | some (.ok false, mu1) => lcLoop t c m rh0 (ds.map f) mu1
        | _ => none) = _
    rw [h0]
    simp only [h1]
    cases hp : p a with
    | true =>
      have h2 := hm a List.mem_cons_self hp
      simp only [h2, ih, Option.map_some, List.filter_cons, hp, if_true, List.map_cons]
    | false => simp only [ih, List.filter_cons, hp, Bool.false_eq_true, if_false]
theorem lcT_ev {α : Type} {ds : List α} {f : α → D} (G : α → Rho) (p : α → Bool) (g : α → D) (hi : it rh mu = some (.ok (ds.map f), mu)) (hl : ds.length ≤ 100000) (ht : ∀ a ∈ ds, t (f a) (wipeR rh own) = some (G a)) (hc : ∀ a ∈ ds, c (G a) mu = some (.ok (p a), mu)) (hm : ∀ a ∈ ds, p a = true → m (G a) mu = some (.ok (g a), mu)) :
    mLc own it t c m rh mu = some (.ok (.lst ((ds.filter p).map g)), mu) := by
  unfold mLc
  rw [bindM_ok hi]
  simp only [lcT_map G p g ht hc hm]
  rw [few_ok (by rw [List.length_map]; exact Nat.le_trans (List.length_filter_le _ _) hl)]
  rfl
theorem loopT_un {t : Tg} {b : MS} {d : D} {ds : List D} {rh : Rho} {mu : Mu} : loopS t b (d :: ds) rh mu = (match t d rh with
      | none => none
      | some rh1 => match b rh1 mu with
        | some (.nx r, mu1) => loopS t b ds r mu1
        | some (.ct r, mu1) => loopS t b ds r mu1
        | some (.bk r, mu1) => some (.nx r, mu1)
        | o => o) := rfl
theorem loopT_fold {α σ : Type} {f : α → D} {t : Tg} {b : MS} (F : σ → α → σ) (I : σ → Rho → Mu → Prop) : ∀ (ds : List α),
    (∀ a ∈ ds, ∀ s rh mu, I s rh mu → ∃ r1 r' mu', t (f a) rh = some r1 ∧ b r1 mu = some (.nx r', mu') ∧ I (F s a) r' mu') → ∀ {s : σ} {rh : Rho} {mu : Mu}, I s rh mu →
    ∃ r' mu', loopS t b (ds.map f) rh mu = some (.nx r', mu') ∧ I (ds.foldl F s) r' mu'
  | [], _, s, rh, mu, h => ⟨rh, mu, rfl, h⟩
  | a :: ds, hs, s, rh, mu, h => by
    obtain ⟨r1, r', mu', h0, h1, h2⟩ := hs a List.mem_cons_self s rh mu h
    rw [List.map_cons, loopT_un, h0]
    simp only [h1]
    exact loopT_fold F I ds (fun b hb => hs b (List.mem_cons_of_mem _ hb)) h2
theorem loopT_find {α : Type} {f : α → D} {t : Tg} {b : MS} {mu : Mu} (I : Rho → Prop) (p : α → Bool) (g : α → D) : ∀ (ds : List α),
    (∀ a ∈ ds, ∀ rh, I rh → ∃ r1, t (f a) rh = some r1 ∧ (p a = true → b r1 mu = some (.rt (g a), mu)) ∧ (p a = false → ∃ r', b r1 mu = some (.nx r', mu) ∧ I r')) → ∀ {rh : Rho}, I rh →
    match ds.find? p with
    | some a => loopS t b (ds.map f) rh mu = some (.rt (g a), mu)
    | none => ∃ r', loopS t b (ds.map f) rh mu = some (.nx r', mu) ∧ I r'
  | [], _, rh, h => ⟨rh, rfl, h⟩
  | a :: ds, hs, rh, h => by
    obtain ⟨r1, h0, h1, h2⟩ := hs a List.mem_cons_self rh h
    cases hp : p a with
    | true =>
      rw [List.find?_cons_of_pos hp, List.map_cons, loopT_un, h0]
      simp only [h1 hp]
    | false =>
      obtain ⟨r', h3, h4⟩ := h2 hp
      rw [List.find?_cons_of_neg (by simp [hp]), List.map_cons, loopT_un, h0]
      simp only [h3]
      exact loopT_find I p g ds (fun b hb => hs b (List.mem_cons_of_mem _ hb)) h4
end
end Eb

/-! Eb: what is told, read: tables as dicts, the rows. -/
namespace Eb
open PySem L2
theorem loopT_nx {α : Type} {f : α → D} {g : α → Rho → Rho} {t : Tg} {b : MS} {mu : Mu} (I : Rho → Prop) : ∀ (ds : List α), (∀ a ∈ ds, ∀ rh, I rh → t (f a) rh = some (g a rh) ∧ ∃ r', b (g a rh) mu = some (.nx r', mu) ∧ I r') → ∀ {rh : Rho}, I rh → ∃ r', loopS t b (ds.map f) rh mu = some (.nx r', mu) ∧ I r'
  | [], _, rh, h => ⟨rh, rfl, h⟩
  | a :: ds, hs, rh, h => by
    obtain ⟨h1, r', h2, h3⟩ := hs a List.mem_cons_self rh h
    have un : loopS t b ((a :: ds).map f) rh mu = (match t (f a) rh with
      | none => none
      | some rh1 => match b rh1 mu with
        | some (.nx r, mu1) => loopS t b (ds.map f) r mu1
        | some (.ct r, mu1) => loopS t b (ds.map f) r mu1
        | some (.bk r, mu1) => some (.nx r, mu1)
        | o => o) := rfl
    rw [un, h1]
    simp only [h2]
    exact loopT_nx I ds (fun b hb => hs b (List.mem_cons_of_mem _ hb)) h3
theorem it_len {e : ME} {rh : Rho} {mu : Mu} {l : List D} {m : Nat} (he : e rh mu = some (.ok (.lst l), mu)) (hl : l.length = m) (h : m ≤ 1000000) : mRng1 (mCons (mCB (pureF lenD) (mCons e mNil)) mNil) rh mu = some (.ok ((List.range m).map fun (i : Nat) => D.int (i : Int)), mu) := by
  have e1 : rng1 [.int (m : Int)] = some (dN (List.range m)) := r_1 h
  simp [he, hl, e1]
theorem dicP_tab {mu : Mu} {h : Hou} {L : Row1} (k : RowOk h L) (hl : L.length ≤ 256) : ∃ M : Row1, dicPD mu [tabRow L] = some (dR M) ∧ ∀ x, getR M x = getR L x := by
  refine ⟨(srtT (L.map (·.1))).map fun s => (s, (getR L s).getD 0), ?_, ?_⟩
  · have e1 : ∀ l : List (List Int), prsD (l.map fun s => D.tup [dT s, .int ((getR L s).getD 0)]) = some (l, l.map fun s => D.int ((getR L s).getD 0)) := by
      intro l
      induction l with
      | nil => rfl
      | cons a l ih =>
        have ka : keyOf (dT a) = some a := keyOf_I a
        simp [prsD, ka, ih]
    have nd : (srtT (L.map fun p => p.1)).Nodup := (srtT_perm _).nodup_iff.mpr k.nd
    have ll : (srtT (L.map (·.1))).length ≤ 100000 := by rw [(srtT_perm _).length_eq, List.length_map]; omega
    show (match lstOf mu (tabRow L) with | some ds => _ | none => none) = _
    show (match prsD ((srtT (L.map fun p : List Int × Int => p.1)).map fun s => D.tup [dT s, .int ((getR L s).getD 0)]) with
      | some p => if p.1.Nodup ∧ ((srtT (L.map fun q : List Int × Int => q.1)).map fun s => D.tup [dT s, .int ((getR L s).getD 0)]).length ≤ 100000 then some (D.dic p.1 p.2) else none
      | none => none) = _
    rw [e1]
    show (if _ then _ else _) = _
    rw [if_pos ⟨nd, by rw [List.length_map]; exact ll⟩]
    show some (D.dic _ _) = some (D.dic (List.map _ _) (List.map _ _))
    rw [List.map_map, List.map_map]
    congr 2
    exact (List.map_id _).symm
  · intro x
    have e2 : ∀ l : List (List Int), getR (l.map fun s => (s, (getR L s).getD 0)) x = if x ∈ l then some ((getR L x).getD 0) else none := by
      intro l
      induction l with
      | nil => rfl
      | cons a l ih =>
        rw [List.map_cons]
        by_cases c : a = x
        · rw [getR_pos c, if_pos (by rw [c]; exact List.mem_cons_self), c]
        · rw [getR_neg c, ih]
          by_cases d : x ∈ l
          · rw [if_pos d, if_pos (List.mem_cons_of_mem _ d)]
          · rw [if_neg d, if_neg]
            intro z
            rcases List.mem_cons.mp z with z | z
            · exact c z.symm
            · exact d z
    rw [e2]
    by_cases c : x ∈ srtT (L.map (·.1))
    · rw [if_pos c]
      obtain ⟨v, hv⟩ : ∃ v, getR L x = some v := Option.isSome_iff_exists.mp ((get_some x L).mpr (srtT_mem.mp c))
      rw [hv]
      rfl
    · rw [if_neg c]
      cases hg : getR L x with
      | none => rfl
      | some v => exact absurd (srtT_mem.mpr ((get_some x L).mp (by rw [hg]; rfl))) c
theorem fewD_0 {mu : Mu} {h : Hou} {n : Nat} : ixD mu (h.fewD n) (.int 0) = some (.str (if (h.best 0 h.begs n).isSome = true then "plan" else "none")) := by
  unfold Hou.fewD
  rcases h.best 0 h.begs n with _ | ⟨v, a, s⟩ <;> simp
theorem fewD_1 {mu : Mu} {h : Hou} {n : Nat} : ixD mu (h.fewD n) (.int (-1)) = some (h.tabD 0 h.begs n) := by
  unfold Hou.fewD
  rcases h.best 0 h.begs n with _ | ⟨v, a, s⟩
  · show atI ([D.str "none"] ++ [h.tabD 0 h.begs n]) (-1) = _
    exact atI_last
  · show atI ([D.str "plan", .lst ((h.planTo 0 h.begs a s).map dS), .int v] ++ [h.tabD 0 h.begs n]) (-1) = _
    exact atI_last
theorem rows_ok {h : Hou} (H : HouOk h) (n : Nat) (hn : h.hours = n) : ∀ i ≤ n, RowOk h (h.rowAt 0 h.begs i) := by
  obtain ⟨_, _, k⟩ := search_ev H n hn
  exact k
end Eb

/-! Eb: the law of people in another order. -/
namespace Eb
open PySem L2
def drB : MS := sIf (mAnd (mTest (mOp neD (mVar 5) (mLst (mNil)))) (mAnd (mTest (mOp ltD (mCB (pureF lenD) (mCons (mVar 5) (mNil))) (mC (.int 6)))) (mTest (mOp eqD (mCall m_lw_taken (mCons (mVar 1) (mCons (mC (.int 2)) (mNil)))) (mC (.int 1)))))) (sDrop (mBM isCell appF (mVar 5) (mCons (mOp ixD (mVar 5) (mC (.int 0))) (mNil)))) (sSkip)
theorem drB_ev {ns : List Int} {h : Hou} (H : HouOk h) {a b c : D} (r : Row) {n : Nat} : ∃ (D2 : List Dor) (r' : Row), drB [some (.scr ns), some (.cel 0), some (dH h), some a, some b, some (.cel 4), some c, none, none, none, none, none, none, none, none] [rowD ns r, .dead, .dead, .lst (h.doors.map dDor), .lst ((h.doors.drop n ++ h.doors.take n).map dDor)] =
    some (.nx [some (.scr ns), some (.cel 0), some (dH h), some a, some b, some (.cel 4), some c, none, none, none, none, none, none, none, none], [rowD ns r', .dead, .dead, .lst (h.doors.map dDor), .lst (D2.map dDor)]) ∧ (∀ x, x ∈ D2 ↔ x ∈ h.doors) ∧ D2.length ≤ 6 := by
  have d6 := H.d6
  have pm : (h.doors.drop n ++ h.doors.take n).Perm h.doors := by
    have := List.perm_append_comm (l₁ := h.doors.drop n) (l₂ := h.doors.take n)
    rwa [List.take_append_drop] at this
  have mem : ∀ x, x ∈ h.doors.drop n ++ h.doors.take n ↔ x ∈ h.doors := fun x => pm.mem_iff
  have len := pm.length_eq
  generalize hq : h.doors.drop n ++ h.doors.take n = L at *
  cases L with
  | nil =>
    refine ⟨[], r, ?_, mem, by simp⟩
    have e : neD [rowD ns r, .dead, .dead, .lst (h.doors.map dDor), .lst (([] : List Dor).map dDor)] (.cel 4) (.lst []) = some (.bl false) := by
      rw [o_neC (ds := []) rfl, o_neP rfl rfl, same_nil]
      rfl
    simp at e
    simp [drB, e]
  | cons d L =>
    have e : ∀ r', neD [rowD ns r', .dead, .dead, .lst (h.doors.map dDor), .lst ((d :: L).map dDor)] (.cel 4) (.lst []) = some (.bl true) := fun r' => by
      rw [o_neC (ds := (d :: L).map dDor) rfl, o_neP (pl_doors _) rfl, same_nil]
      rfl
    have lE : ∀ r', lenD [rowD ns r', .dead, .dead, .lst (h.doors.map dDor), .lst ((d :: L).map dDor)] [.cel 4] = some (.int ((d :: L).length : Int)) := fun r' => by
      show some (D.int (((d :: L).map dDor).length : Int)) = _
      rw [List.length_map]
    have hL : (d :: L).length = h.doors.length := len
    have app : (d :: L ++ [d]).map dDor = (d :: L).map dDor ++ [dDor d] := by simp
    have hd : ((d :: L).map dDor)[0]? = some (dDor d) := rfl
    have hlen : ((d :: L).map dDor).length = h.doors.length := by rw [List.length_map]; exact hL
    rw [hL] at lE
    by_cases c1 : h.doors.length < 6
    · have c1' : (h.doors.length : Int) < 6 := by omega
      have q := mod_lt (x := raw ns r) (m := 2) (by omega)
      have hl2 : h.doors.length < 100000 := by omega
      by_cases c2 : raw ns r % 2 = 1
      · refine ⟨d :: L ++ [d], nxt ns r, ?_, fun x => ?_, by simp; simp at hL; omega⟩
        · rw [app]
          generalize (d :: L).map dDor = M at *
          simp [drB, e, lE, c1', taken_ev, c2, hd, hlen, hl2]
        · rw [List.mem_append, List.mem_singleton]
          constructor
          · rintro (z | rfl)
            · exact (mem x).mp z
            · exact (mem x).mp List.mem_cons_self
          · exact fun z => .inl ((mem x).mpr z)
      · refine ⟨d :: L, nxt ns r, ?_, mem, by rw [hL]; omega⟩
        generalize (d :: L).map dDor = M at *
        simp [drB, e, lE, c1', taken_ev, c2, hlen]
    · have c1' : ¬ (h.doors.length : Int) < 6 := by omega
      refine ⟨d :: L, r, ?_, mem, by rw [hL]; omega⟩
      generalize (d :: L).map dDor = M at *
      simp [drB, e, lE, c1', hlen]
theorem prsI_map {α : Type} (a : α → List Int) (v : α → Int) : ∀ l : List α, prsI (l.map fun s => D.tup [.tup (dI (a s)), .int (v s)]) = some (l.map fun s => a s ++ [v s])
  | [] => rfl
  | s :: l => by
    have e : intsOf (dI (a s)) = some (a s) := intsOf_I _
    show (match intsOf (dI (a s)), prsI (l.map fun s => D.tup [.tup (dI (a s)), .int (v s)]) with
      | some k, some l => some ((k ++ [v s]) :: l)
      | _, _ => none) = _
    rw [e, prsI_map a v l]
    rfl
theorem row12 {h h2 : Hou} {f g : Nat → Nat} (T : Turn h h2 f g) {L L2 : Row1} (k1 : RowOk h L) (k2 : RowOk h2 L2) (l256 : L.length ≤ 256) (eq : ∀ x : List Int, x.length = h.people.length → getR L2 (turn f x) = getR L x) (mu : Mu) :
    sortPD mu [.lst ((srtT (L.map (·.1))).map fun s => D.tup [.tup (dI (turn f s)), .int ((getR L s).getD 0)])] = some (tabRow L2) := by
  have ks : ∀ s ∈ L.map (·.1), s.length = h.people.length := fun s hs => (k1.st s hs).len
  have ks2 : ∀ s ∈ L2.map (·.1), s.length = h.people.length := fun s hs => by rw [(k2.st s hs).len, T.pl]
  have pk : ((L.map (·.1)).map (turn f)).Perm (L2.map (·.1)) := by
    refine ndP ?_ k2.nd fun y => ?_
    · rw [List.nodup_iff_pairwise_ne, List.pairwise_map]
      refine (List.nodup_iff_pairwise_ne.mp k1.nd).imp_of_mem fun {a b} ha hb ne e => ne ?_
      have := congrArg (turn g) e
      rwa [T.turn_turn (ks a ha), T.turn_turn (ks b hb)] at this
    · rw [List.mem_map]
      constructor
      · rintro ⟨s, hs, rfl⟩
        rw [← get_some, eq s (ks s hs), get_some]
        exact hs
      · intro hy
        have ly := ks2 y hy
        have e := T.symm.turn_turn (st := y) (by rw [T.pl]; exact ly)
        refine ⟨turn g y, ?_, e⟩
        rw [← get_some, ← eq (turn g y) (by rw [turn_len]; exact ly), e, get_some]
        exact hy
  let F : List Int → List Int := fun s => turn f s ++ [(getR L s).getD 0]
  let G : List Int → List Int := fun y => y ++ [(getR L2 y).getD 0]
  have e1 : srtT ((srtT (L.map (·.1))).map F) = (srtT (L2.map (·.1))).map G := by
    refine pwT_unique ?_ (srtT_pw _) ?_
    · refine (srtT_perm _).trans (((srtT_perm (L.map (·.1))).map F).trans ?_)
      refine List.Perm.trans ?_ ((srtT_perm (L2.map (·.1))).map G).symm
      refine List.Perm.trans ?_ (pk.map G)
      have : ((L.map (·.1)).map (turn f)).map G = (L.map (·.1)).map F := by
        rw [List.map_map (f := turn f)]
        apply List.map_congr_left
        intro s hs
        show turn f s ++ [(getR L2 (turn f s)).getD 0] = turn f s ++ [(getR L s).getD 0]
        rw [eq s (ks s hs)]
      rw [this]
    · rw [List.pairwise_map]
      have nd : (srtT (L2.map (·.1))).Nodup := (srtT_perm _).nodup_iff.mpr k2.nd
      refine (((srtT_pw (L2.map (·.1))).and (List.nodup_iff_pairwise_ne.mp nd))).imp_of_mem fun {a b} ha hb q => ?_
      have la := ks2 a (srtT_mem.mp ha)
      have lb := ks2 b (srtT_mem.mp hb)
      show HT.lexLt (b ++ [(getR L2 b).getD 0]) (a ++ [(getR L2 a).getD 0]) = false
      rw [lex_app (m := 0) (by omega), if_neg (fun z => q.2 z.symm)]
      exact q.1
  show (match lstOf mu (.lst ((srtT (L.map (·.1))).map fun s => D.tup [.tup (dI (turn f s)), .int ((getR L s).getD 0)])) with
    | some ds => match prsI ds with
      | some l => if l.length ≤ 10000 ∧ l.all (fun k => decide (k.length = (l.headD []).length)) = true then some (D.lst ((srtT l).map pairD)) else none
      | none => none
    | none => none) = _
  show (match prsI ((srtT (L.map (·.1))).map fun s => D.tup [.tup (dI (turn f s)), .int ((getR L s).getD 0)]) with
      | some l => if l.length ≤ 10000 ∧ l.all (fun k => decide (k.length = (l.headD []).length)) = true then some (D.lst ((srtT l).map pairD)) else none
      | none => none) = _
  rw [prsI_map (turn f) (fun s => (getR L s).getD 0)]
  show (if ((srtT (L.map (·.1))).map F).length ≤ 10000 ∧ ((srtT (L.map (·.1))).map F).all (fun k => decide (k.length = (((srtT (L.map (·.1))).map F).headD []).length)) = true then some (D.lst ((srtT ((srtT (L.map (·.1))).map F)).map pairD)) else none) = _
  have lF : ∀ k ∈ (srtT (L.map (·.1))).map F, k.length = h.people.length + 1 := fun k hk => by
    obtain ⟨s, hs, rfl⟩ := List.mem_map.mp hk
    show (turn f s ++ [(getR L s).getD 0]).length = _
    rw [List.length_append, turn_len, ks s (srtT_mem.mp hs)]
    rfl
  rw [if_pos]
  · rw [e1, List.map_map]
    congr 2
    apply List.map_congr_left
    intro y _
    show pairD (y ++ [(getR L2 y).getD 0]) = _
    unfold pairD
    rw [List.dropLast_concat, List.getLastD_concat]
  · refine ⟨by rw [List.length_map, (srtT_perm _).length_eq, List.length_map]; omega, ?_⟩
    rw [List.all_eq_true]
    intro k hk
    refine decide_eq_true ?_
    rw [lF k hk]
    cases hq : (srtT (L.map (·.1))).map F with
    | nil => rw [hq] at hk; cases hk
    | cons a l =>
      rw [hq] at lF
      exact (lF a List.mem_cons_self).symm
theorem law_true (ns : List Int) (hl : ns.length ≤ 63) : ∃ mu', m_law_12 [.scr ns] [] = some (.ok (.bl true), mu') := by
  have er : Cell.lst [D.scr ns, .int 0, .int 0] = rowD ns ⟨0, 0⟩ := rfl
  obtain ⟨h, H, r1, more, e1⟩ := house_ev ns ⟨0, 0⟩
  have e2 := row_of (mu := []) rfl rfl e1 (by simp) rfl
  have p4 := H.p4
  have p1 := H.p1
  have p0 : ¬ h.people = [] := fun z => by rw [z] at p1; simp at p1
  obtain ⟨o, r2, ew, po⟩ := or_loop (ns := ns) (h := h) 100 (List.range h.people.length) [] r1 (by simp; omega) (by simp; omega)
  rw [List.nil_append] at po
  have lg : ∀ mu : Mu, lstRgF (.int (h.people.length : Int)) mu = some (.cel mu.length, mu ++ [.lst (dN (List.range h.people.length))]) := fun mu => by
    show (if 0 ≤ (h.people.length : Int) ∧ (h.people.length : Int) ≤ 1000 then some (D.cel mu.length, mu ++ [.lst ((List.range (h.people.length : Int).toNat).map fun (i : Nat) => .int (i : Int))]) else none) = _
    rw [if_pos (by omega), Int.toNat_natCast]
  have w : ∀ m rest, sSeq (loopW (mTest (mOp neD (mVar 3) (mLst (mNil)))) (sDrop (mBM isCell appF (mVar 4) (mCons (mBM isCell popF (mVar 3) (mCons (mCall m_lw_taken (mCons (mVar 1) (mCons (mCB (pureF lenD) (mCons (mVar 3) (mNil))) (mNil)))) (mNil))) (mNil)))) m) rest = sSeq (loopW orC orB m) rest := fun _ _ => rfl
  have w2 : ∀ rest, sSeq (sIf (mAnd (mTest (mOp neD (mVar 5) (mLst (mNil)))) (mAnd (mTest (mOp ltD (mCB (pureF lenD) (mCons (mVar 5) (mNil))) (mC (.int 6)))) (mTest (mOp eqD (mCall m_lw_taken (mCons (mVar 1) (mCons (mC (.int 2)) (mNil)))) (mC (.int 1)))))) (sDrop (mBM isCell appF (mVar 5) (mCons (mOp ixD (mVar 5) (mC (.int 0))) (mNil)))) (sSkip)) rest = sSeq drB rest := fun _ => rfl
  have ld : (0 : Int) < (h.doors.length : Int) + 1 := by omega
  have t1 := fun r rest => taken_ev (ns := ns) (r := r) (rest := rest) ld
  have q := mod_lt (x := raw ns r2) ld
  obtain ⟨n, en⟩ : ∃ n : Nat, raw ns r2 % ((h.doors.length : Int) + 1) = (n : Int) := ⟨(raw ns r2 % ((h.doors.length : Int) + 1)).toNat, by omega⟩
  have sl1 : ∀ r, slD [rowD ns r, .dead, .dead, .lst (h.doors.map dDor)] (.cel 3) (some (n : Int)) none = some (.lst ((h.doors.drop n).map dDor)) := fun r => by
    show some (D.lst (cutL (h.doors.map dDor) (some (n : Int)) none)) = _
    rw [cut_drop, List.map_drop]
  have sl2 : ∀ r, slD [rowD ns r, .dead, .dead, .lst (h.doors.map dDor)] (.cel 3) none (some (n : Int)) = some (.lst ((h.doors.take n).map dDor)) := fun r => by
    show some (D.lst (cutL (h.doors.map dDor) none (some (n : Int)))) = _
    rw [cut_take, List.map_take]
  have ad : ∀ r, addC (.lst ((h.doors.drop n).map dDor)) (.lst ((h.doors.take n).map dDor)) [rowD ns r, .dead, .dead, .lst (h.doors.map dDor)] = some (.cel 4, [rowD ns r, .dead, .dead, .lst (h.doors.map dDor), .lst ((h.doors.drop n ++ h.doors.take n).map dDor)]) := fun r => by
    have d6 := H.d6
    show (if ((h.doors.drop n).map dDor).length + ((h.doors.take n).map dDor).length ≤ 100000 then some (D.cel 4, [rowD ns r, .dead, .dead, .lst (h.doors.map dDor)] ++ [Cell.lst ((h.doors.drop n).map dDor ++ (h.doors.take n).map dDor)]) else none) = _
    rw [if_pos (by simp; omega), ← List.map_append]
    rfl
  have lE : ∀ r, lenD [rowD ns r, .dead, .dead, .lst (h.doors.map dDor)] [.cel 3] = some (.int (h.doors.length : Int)) := fun r => by
    show some (D.int ((h.doors.map dDor).length : Int)) = _
    rw [List.length_map]
  obtain ⟨D2, r4, ed, mD, d6⟩ := drB_ev (ns := ns) H (a := .lst []) (b := .lst (dN o)) (c := .int (n : Int)) (nxt ns r2) (n := n)
  have vA : ∀ ma mb rh mu, mAddC ma mb rh mu = bindM ma (fun x => bindM mb fun y _ mu => (addC x y mu).map fun p => (.ok p.1, p.2)) rh mu := fun _ _ _ _ => rfl
  simp [m_law_12, er, e2, mLstRg, lg, w, w2, -v_for, -v_ifS, -v_and, -v_or]
  have ew' := ew
  unfold orRh at ew'
  simp only [dN, List.map_nil] at ew'
  simp only [dN]
  rw [ew']
  obtain ⟨H2, T, et, eb⟩ := turn_mk H po mD d6
  generalize hh2 : (⟨h.zones, h.hours, D2, o.map h.P⟩ : Hou) = h2 at *
  simp [t1, en, sl1, sl2, lE, vA, ad, -v_for, -v_ifS, -v_and, -v_or, -List.map_append, -List.map_drop, -List.map_take]
  simp only [dN] at ed
  rw [ed]
  have om : ∀ n ∈ o, n < h.people.length := fun n hn => List.mem_range.mp (po.mem_iff.mp hn)
  have lo : o.length ≤ 4 := by rw [po.length_eq, List.length_range]; exact p4
  have c1 : ∀ a b c d e, mLc [12] (mItems (mVar 4)) (tNm 12) mYes (mOp ixD (mOp ixD (mVar 2) (mC (.int 3))) (mVar 12)) [a, b, some (dH h), c, some (.lst (o.map fun (n : Nat) => D.int (n : Int))), d, e, none, none, none, none, none, none, none, none] [rowD ns r4, .dead, .dead, .lst (h.doors.map dDor), .dead] = some (.ok (.lst ((o.map h.P).map dPer)), [rowD ns r4, .dead, .dead, .lst (h.doors.map dDor), .dead]) := by
    intros
    rw [lc_ev (ds := o) (f := fun (n : Nat) => D.int (n : Int)) (fun _ => true) (fun n => dPer (h.P n)) ?_ ?_ ?_ ?_]
    · rw [fil_true, List.map_map]
      rfl
    · simp [itemsOf]
    · omega
    · intro n hn
      simp
    · intro n hn _
      simp [wipeR, Hou.P_of (om n hn)]
  have eo : D.tup [.int h.zones, .int h.hours, .lst (D2.map dDor), .lst ((o.map h.P).map dPer)] = dH h2 := by rw [← hh2]; rfl
  have e3 := made_ev H (mu := [rowD ns r4, .dead, .dead, .lst (h.doors.map dDor), .dead])
  have e4 := made_ev H2 (mu := [rowD ns r4, .dead, .dead, .lst (h.doors.map dDor), .dead])
  obtain ⟨m, hm⟩ : ∃ n : Nat, h.hours = n := ⟨h.hours.toNat, by have := H.h0; omega⟩
  have hm2 : h2.hours = m := by rw [← hh2]; exact hm
  have f1 := fewest_pv H m hm [rowD ns r4, .dead, .dead, .lst (h.doors.map dDor), .dead]
  have f2 := fewest_pv H2 m hm2 [rowD ns r4, .dead, .dead, .lst (h.doors.map dDor), .dead]
  generalize hM : [rowD ns r4, Cell.dead, Cell.dead, Cell.lst (h.doors.map dDor), Cell.dead] = M at *
  simp [hM, c1, eo, e3, e4, f1, f2, -v_for, -v_ifS, -v_and, -v_or, -List.map_map]
  have kr := rows_ok H m hm
  have kr2 := rows_ok H2 m hm2
  have kb := begs_stat H
  have ebt := T.best (hour := 0) (st := h.begs) (n := m) p4 kb.len kr (by rw [← eb]; exact kr2)
  rw [← eb] at ebt
  have er2 : ∀ i ≤ m, ∀ x : List Int, x.length = h.people.length → getR (h2.rowAt 0 h2.begs i) (turn (fun k => (o[k]?).getD 0) x) = getR (h.rowAt 0 h.begs i) x := fun i hi x hx => by
    have := T.row (hour := 0) (st := h.begs) (n := m) p4 kb.len kr (by rw [← eb]; exact kr2) hi hx
    rw [← eb] at this
    exact this
  have q1 : ∀ a b c d e i j k l n p q u, mOr (mTest (mOp neD (mOp ixD (mVar 8) (mC (.int 0))) (mOp ixD (mVar 9) (mC (.int 0))))) (mAnd (mTest (mOp eqD (mOp ixD (mVar 8) (mC (.int 0))) (mC (.str "plan")))) (mTest (mOp neD (mOp ixD (mVar 8) (mC (.int 2))) (mOp ixD (mVar 9) (mC (.int 2)))))) [a, b, c, d, e, i, j, k, some (h.fewD m), some (h2.fewD m), l, n, p, q, u] M = some (.ok false, M) := by
    intros
    have sp : pl 12 (.str "plan") = true := by
      show PyData.strOk "plan" = true
      decide +kernel
    have sn : pl 12 (.str "none") = true := by
      show PyData.strOk "none" = true
      decide +kernel
    have pp : ∀ mu : Mu, eqD mu (.str "plan") (.str "plan") = some (.bl true) := fun mu => by rw [o_eqP sp sp, same_refl]
    have pn : ∀ mu : Mu, eqD mu (.str "none") (.str "plan") = some (.bl false) := fun mu => by
      rw [o_eqP sn sp, same_no]
      intro z
      have : ("none" : Str) = "plan" := D.str.inj z
      exact absurd this (by decide)
    have np : ∀ mu : Mu, neD mu (.str "plan") (.str "plan") = some (.bl false) := fun mu => by rw [o_neP sp sp, same_refl]; rfl
    have nn : ∀ mu : Mu, neD mu (.str "none") (.str "none") = some (.bl false) := fun mu => by rw [o_neP sn sn, same_refl]; rfl
    cases hb : h.best 0 h.begs m with
    | none =>
      have hb2 : h2.best 0 h2.begs m = none := by
        rw [hb] at ebt
        exact Option.map_eq_none_iff.mp ebt
      have d1 : h.fewD m = .tup [.str "none", h.tabD 0 h.begs m] := by unfold Hou.fewD; rw [hb]
      have d2 : h2.fewD m = .tup [.str "none", h2.tabD 0 h2.begs m] := by unfold Hou.fewD; rw [hb2]
      rw [d1, d2]
      simp [pn, nn]
    | some key =>
      rw [hb] at ebt
      obtain ⟨key2, hb2, ek⟩ := Option.map_eq_some_iff.mp ebt
      obtain ⟨v, a, s⟩ := key
      obtain ⟨v2, a2, s2⟩ := key2
      have ek : v2 = v := ek
      have d1 : h.fewD m = .tup [.str "plan", .lst ((h.planTo 0 h.begs a s).map dS), .int v, h.tabD 0 h.begs m] := by unfold Hou.fewD; rw [hb]
      have d2 : h2.fewD m = .tup [.str "plan", .lst ((h2.planTo 0 h2.begs a2 s2).map dS), .int v2, h2.tabD 0 h2.begs m] := by unfold Hou.fewD; rw [hb2]
      rw [d1, d2, ek]
      simp [pp, np]
  have x1 := fun mu => fewD_1 (mu := mu) (h := h) (n := m)
  have x2 := fun mu => fewD_1 (mu := mu) (h := h2) (n := m)
  generalize hd1 : h.fewD m = d1 at *
  generalize hd2 : h2.fewD m = d2 at *
  rw [v_ifS, v_bindS, q1]
  simp [-v_for]
  let pre : Rho := [some (.scr ns), some (.cel 0), some (dH h), some (.lst []), some (.lst (o.map fun (n : Nat) => D.int (n : Int))), some (.lst (D2.map dDor)), some (.int (n : Int)), some (dH h2), some d1, some d2, some (.cel M.length)]
  obtain ⟨k, ek⟩ : ∃ k, k = m + 1 := ⟨_, rfl⟩
  have et1 : h.tabD 0 h.begs m = .lst ((List.range k).map fun j => tabRow (h.rowAt 0 h.begs j)) := by rw [ek]; rfl
  have et2 : h2.tabD 0 h2.begs m = .lst ((List.range k).map fun j => tabRow (h2.rowAt 0 h2.begs j)) := by rw [ek]; rfl
  have k9 : k ≤ 9 := by have := H.h8; omega
  refine seq_inv (mu1 := M ++ [.lst []]) (ds := List.range k) (f := fun j => tabRow (h.rowAt 0 h.begs j)) (rh := pre ++ [none, none, none, none]) (fun i rh mu => mu = M ++ [.lst ((List.range i).map fun j => tabRow (h2.rowAt 0 h2.begs j))] ∧ ∃ a, rh = pre ++ [a, none, none, none]) ?_ ⟨rfl, none, rfl⟩ ?_ (fun o => ∃ mu', fin o = some (Rs.ok (D.bl true), mu')) ?_
  · have : ∀ mu, ixD mu d1 (.int (-1)) = some (.lst ((List.range k).map fun j => tabRow (h.rowAt 0 h.begs j))) := fun mu => by rw [x1, et1]
    simp [pre, this, itemsOf]
  · rintro i j hj _ _ ⟨rfl, a, rfl⟩
    obtain ⟨hi, ei⟩ : i < k ∧ j = i := by
      obtain ⟨h1, h2⟩ := List.getElem?_eq_some_iff.mp hj
      rw [List.length_range] at h1
      rw [List.getElem_range] at h2
      exact ⟨h1, h2.symm⟩
    subst ei
    have z1 : 0 ≤ h.zones := by have := H.z1; omega
    have kj := kr j (by omega)
    have l256 := kj.len z1 H.z4 p4
    have sp := row12 T kj (kr2 j (by omega)) l256 (er2 j (by omega)) (M ++ [.lst ((List.range j).map fun j => tabRow (h2.rowAt 0 h2.begs j))])
    have stl : ∀ s ∈ srtT ((h.rowAt 0 h.begs j).map (·.1)), s.length = h.people.length := fun s hs => (kj.st s (srtT_mem.mp hs)).len
    have c2 : ∀ mu : Mu, mLc [13, 14] (mItems (mVar 11)) (tTp 2 (tsCons (tNm 13) (tsCons (tNm 14) tsNil))) mYes (mTup (mCons (mCB (pureF tupleD) (mCons (mLc [12] (mItems (mVar 4)) (tNm 12) mYes (mOp ixD (mVar 13) (mVar 12))) mNil)) (mCons (mVar 14) mNil))) (pre ++ [some (tabRow (h.rowAt 0 h.begs j)), none, none, none]) mu =
        some (.ok (.lst ((srtT ((h.rowAt 0 h.begs j).map (·.1))).map fun s => D.tup [.tup (dI (turn (fun k => (o[k]?).getD 0) s)), .int ((getR (h.rowAt 0 h.begs j) s).getD 0)])), mu) := fun mu => by
      rw [lcT_ev (ds := srtT ((h.rowAt 0 h.begs j).map (·.1))) (f := fun s => .tup [dT s, .int ((getR (h.rowAt 0 h.begs j) s).getD 0)]) (fun s => pre ++ [some (tabRow (h.rowAt 0 h.begs j)), none, some (dT s), some (.int ((getR (h.rowAt 0 h.begs j) s).getD 0))]) (fun _ => true) (fun s => D.tup [.tup (dI (turn (fun k => (o[k]?).getD 0) s)), .int ((getR (h.rowAt 0 h.begs j) s).getD 0)]) ?_ ?_ ?_ ?_ ?_]
      · rw [fil_true]
      · simp [pre, tabRow, itemsOf]
      · rw [(srtT_perm _).length_eq, List.length_map]
        omega
      · intro s hs
        rfl
      · intro s hs
        rfl
      · intro s hs _
        rw [et s (stl s hs)]
        have ls := stl s hs
        have c3 : mLc [12] (mItems (mVar 4)) (tNm 12) mYes (mOp ixD (mVar 13) (mVar 12)) (pre ++ [some (tabRow (h.rowAt 0 h.begs j)), none, some (dT s), some (.int ((getR (h.rowAt 0 h.begs j) s).getD 0))]) mu = some (.ok (.lst (dI (o.map (S s)))), mu) := by
          rw [lc_ev (ds := o) (f := fun (n : Nat) => D.int (n : Int)) (fun _ => true) (fun n => .int (S s n)) ?_ ?_ ?_ ?_]
          · rw [fil_true, dI, List.map_map]
            rfl
          · simp [pre, itemsOf]
          · omega
          · intro n hn
            simp
          · intro n hn _
            have : s[n]? = some (S s n) := S_of (by rw [ls]; exact om n hn)
            simp [pre, wipeR, this]
        generalize tabRow (h.rowAt 0 h.begs j) = tr at *
        generalize D.int ((getR (h.rowAt 0 h.begs j) s).getD 0) = v at *
        generalize o.map (S s) = os at *
        simp only [v_tup, v_cons, v_cb, v_bindM, c3, tM_ok]
        simp [pre]
    have lj : ((List.range j).map fun j => tabRow (h2.rowAt 0 h2.begs j)).length < 100000 := by rw [List.length_map, List.length_range]; omega
    have es : (List.range (j + 1)).map (fun j => tabRow (h2.rowAt 0 h2.begs j)) = (List.range j).map (fun j => tabRow (h2.rowAt 0 h2.begs j)) ++ [tabRow (h2.rowAt 0 h2.begs j)] := by
      rw [List.range_succ, List.map_append]
      rfl
    rw [es]
    generalize (List.range j).map (fun j => tabRow (h2.rowAt 0 h2.begs j)) = R at *
    generalize tabRow (h2.rowAt 0 h2.begs j) = tr2 at *
    generalize tabRow (h.rowAt 0 h.begs j) = tr at *
    have c4 := c2 (M ++ [.lst R])
    generalize D.lst ((srtT ((h.rowAt 0 h.begs j).map (·.1))).map fun s => D.tup [.tup (dI (turn (fun k => (o[k]?).getD 0) s)), .int ((getR (h.rowAt 0 h.begs j) s).getD 0)]) = dl at *
    refine ⟨pre ++ [some tr, none, none, none], _, ?_, rfl, some tr, rfl⟩
    simp only [pre, List.cons_append, List.nil_append] at c4
    simp [pre, c4, sp, lj]
  · rintro _ _ ⟨rfl, a, rfl⟩
    rw [List.length_range]
    have pt : pl 12 (.lst ((List.range k).map fun j => tabRow (h2.rowAt 0 h2.begs j))) = true := by
      show ((List.range k).map fun j => tabRow (h2.rowAt 0 h2.begs j)).all (pl 11) = true
      rw [List.all_map, List.all_eq_true]
      intro j _
      show ((srtT ((h2.rowAt 0 h2.begs j).map (·.1))).map fun s => D.tup [dT s, .int ((getR (h2.rowAt 0 h2.begs j) s).getD 0)]).all (pl 10) = true
      rw [List.all_map, List.all_eq_true]
      intro s _
      show ([dT s, D.int ((getR (h2.rowAt 0 h2.begs j) s).getD 0)]).all (pl 9) = true
      have : pl 9 (dT s) = true := pl_I 7 s
      simp only [List.all_cons, List.all_nil, this, Bool.and_true, Bool.true_and]
      rfl
    have x3 : ∀ mu, ixD mu d2 (.int (-1)) = some (.lst ((List.range k).map fun j => tabRow (h2.rowAt 0 h2.begs j))) := fun mu => by rw [x2, et2]
    have eqq : ∀ mu, eqD mu (.lst ((List.range k).map fun j => tabRow (h2.rowAt 0 h2.begs j))) (.lst ((List.range k).map fun j => tabRow (h2.rowAt 0 h2.begs j))) = some (.bl true) := fun mu => by rw [o_eqP pt pt, same_refl]
    generalize (List.range k).map (fun j => tabRow (h2.rowAt 0 h2.begs j)) = R at *
    simp [pre, x3, eqq]
end Eb

/-! Eb: the defs of the text of escortbook_k12_whole_people_told_in_anot: each computes what its meaning says. Printed by gen.py. -/
namespace Eb
open PySem L2
def top (i : Nat) : Stmt := PySem.Challenge.pw_escortbook_k12_whole_people_told_in_anot.main.body.getD i (.Pass ⟨0, 0, 0, 0⟩)
abbrev st_lw_taken : Stmt := top 44
abbrev st_lw_names : Stmt := top 45
abbrev st_lw_person : Stmt := top 46
abbrev st_lw_free : Stmt := top 48
abbrev st_lw_left : Stmt := top 49
abbrev st_lw_house : Stmt := top 47
abbrev st_groups_of : Stmt := top 36
abbrev st_first_of : Stmt := top 32
abbrev st_is_free : Stmt := top 7
abbrev st_led_ones : Stmt := top 9
abbrev st_may_be : Stmt := top 8
abbrev st_can_lead : Stmt := top 10
abbrev st_left_one : Stmt := top 11
abbrev st_moved : Stmt := top 31
abbrev st_bar_of_going : Stmt := top 34
abbrev st_bar_of : Stmt := top 33
abbrev st_steps_at : Stmt := top 37
abbrev st_behind : Stmt := top 35
abbrev st_goings : Stmt := top 38
abbrev st_Search_go_on : Stmt := inClass (top 41) 1
abbrev st_Search_init : Stmt := inClass (top 41) 0
abbrev st_is_met : Stmt := top 39
abbrev st_Search_best : Stmt := inClass (top 41) 3
abbrev st_begin : Stmt := top 30
abbrev st_Search_plan_to : Stmt := inClass (top 41) 4
abbrev st_Search_table : Stmt := inClass (top 41) 2
abbrev st_fewest : Stmt := top 42
abbrev st_BadHouse_init : Stmt := inClass (top 2) 0
abbrev st_must : Stmt := top 25
abbrev st_House_is_door : Stmt := inClass (top 27) 1
abbrev st_is_name : Stmt := top 26
abbrev st_House_is_person : Stmt := inClass (top 27) 2
abbrev st_House_init : Stmt := inClass (top 27) 0
abbrev st_lw_made : Stmt := top 50
abbrev st_law : Stmt := top 51
structure Tx (K : PySem.W.Frag) (mg : Str → Option Value) (cls : Nat → Addr) : Prop where
  d_lw_taken : DefAt K mg "_law_taken" st_lw_taken ["_law_row", "_law_many"]
  d_lw_names : DefAt K mg "_law_names" st_lw_names ["_law_row"]
  d_lw_person : DefAt K mg "_law_person" st_lw_person ["_law_row", "_law_name", "_law_zones"]
  d_lw_free : DefAt K mg "_law_free" st_lw_free ["_law_house_here", "_law_person_here", "_law_zone"]
  d_lw_left : DefAt K mg "_law_left" st_lw_left ["_law_house_here", "_law_state"]
  d_lw_house : DefAt K mg "_law_house" st_lw_house ["_law_row"]
  d_groups_of : DefAt K mg "groups_of" st_groups_of ["many"]
  d_first_of : DefAt K mg "first_of" st_first_of ["persons"]
  d_is_free : DefAt K mg "is_free" st_is_free ["house", "person", "zone"]
  d_led_ones : DefAt K mg "led_ones" st_led_ones ["house", "persons", "zones"]
  d_may_be : DefAt K mg "may_be" st_may_be ["house", "person", "zone"]
  d_can_lead : DefAt K mg "can_lead" st_can_lead ["house", "persons", "zones"]
  d_left_one : DefAt K mg "left_one" st_left_one ["house", "state"]
  d_moved : DefAt K mg "moved" st_moved ["state", "group", "zone"]
  d_bar_of_going : DefAt K mg "bar_of_going" st_bar_of_going ["house", "state", "group", "here", "there"]
  d_bar_of : DefAt K mg "bar_of" st_bar_of ["house", "hour", "state", "step"]
  d_steps_at : DefAt K mg "steps_at" st_steps_at ["house", "hour", "state"]
  d_behind : DefAt K mg "behind" st_behind ["house", "state", "step"]
  d_goings : DefAt K mg "goings" st_goings ["house", "step"]
  d_Search_go_on : MethAt K (cls 1) "go_on" "Search.go_on" st_Search_go_on ["self", "hour"]
  d_Search_init : InitAt K (cls 1) "Search.__init__" st_Search_init ["self", "house", "hour", "state"]
  d_is_met : DefAt K mg "is_met" st_is_met ["house", "state"]
  d_Search_best : MethAt K (cls 1) "best" "Search.best" st_Search_best ["self"]
  d_begin : DefAt K mg "begin" st_begin ["house"]
  d_Search_plan_to : MethAt K (cls 1) "plan_to" "Search.plan_to" st_Search_plan_to ["self", "at", "state"]
  d_Search_table : MethAt K (cls 1) "table" "Search.table" st_Search_table ["self"]
  d_fewest : DefAt K mg "fewest" st_fewest ["house"]
  d_BadHouse_init : EIAt K (cls 2) "BadHouse.__init__" st_BadHouse_init ["self", "word", "number"] (fldsT 2)
  d_must : DefAt K mg "must" st_must ["good", "word", "number"]
  d_House_is_door : MethAt K (cls 0) "is_door" "House.is_door" st_House_is_door ["self", "door"]
  d_is_name : DefAt K mg "is_name" st_is_name ["text"]
  d_House_is_person : MethAt K (cls 0) "is_person" "House.is_person" st_House_is_person ["self", "number"]
  d_House_init : InitAt K (cls 0) "House.__init__" st_House_init ["self", "zones", "hours", "doors", "people"]
  d_lw_made : DefAt K mg "_law_made" st_lw_made ["_law_house_here"]
  bi : BaseI K (cls 7)
  c0 : ClsT K (cls 0) (fldsT 0)
  c1 : ClsT K (cls 1) (fldsT 1)
  g_BEGIN : GInt mg "BEGIN" 1
  g_FREE : GInt mg "FREE" 5
  g_GOAL : GInt mg "GOAL" 2
  g_LED : GInt mg "LED" 6
  g_LETTERS : GStr mg "LETTERS" "abcdefghijklmnopqrstuvwxyz"
  g_LONGEST_NAME : GInt mg "LONGEST_NAME" 8
  g_MOST_DOORS : GInt mg "MOST_DOORS" 6
  g_MOST_HOURS : GInt mg "MOST_HOURS" 8
  g_MOST_PEOPLE : GInt mg "MOST_PEOPLE" 4
  g_MOST_WIDE : GInt mg "MOST_WIDE" 4
  g_MOST_ZONES : GInt mg "MOST_ZONES" 4
  g_MOST_houses : GInt mg "MOST_houses" 3
  g_MOST_rules : GInt mg "MOST_rules" 3
  g_NAME : GInt mg "NAME" 0
  g_SINCE : GInt mg "SINCE" 4
  g_WAIT : GWait K mg "WAIT"
  k_BadHouse : mg "BadHouse" = some (.ref (cls 2))
  k_BookError : mg "BookError" = some (.ref (cls 7))
  k_House : mg "House" = some (.ref (cls 0))
  k_Search : mg "Search" = some (.ref (cls 1))
  n_int : mg "int" = none
  n_len : mg "len" = none
  n_list : mg "list" = none
  n_range : mg "range" = none
  n_reversed : mg "reversed" = none
  n_set : mg "set" = none
  n_sorted : mg "sorted" = none
  n_sum : mg "sum" = none
  n_tuple : mg "tuple" = none
section
variable {P : Program} {w : World} {K : PySem.W.Frag} {mg : Str → Option Value} {base : Heap} {cls : Nat → Addr}
theorem sc_lw_taken : FnScope ["_law_row", "_law_many", "_law_cell"] ["_law_row", "_law_many"] (defScope st_lw_taken) := ⟨rfl, rfl, rfl, by decide +kernel, rfl, by decide +kernel, by decide +kernel⟩
theorem ok_lw_taken (T : Tx K mg cls)  : Cal P w K mg base cls "_law_taken" 1 ["_law_row", "_law_many"] m_lw_taken := by
  obtain ⟨f, fd, g, k, F, b⟩ := T.d_lw_taken.ex
  refine ⟨f, fd, g, k, b, okM F sc_lw_taken rfl rfl (by decide) fun cdv A outer s H E hr => ?_⟩
  have sc := sc_lw_taken
  exact pms_cons (pm_put (pm_var 0) (pm_int) (pm_op (om_add rfl) (pm_ix rfl (pm_var 0) (pm_int)) (pm_int))) (pms_cons (pms_if (pmt_cmp om_gt (pm_ix rfl (pm_var 0) (pm_int)) (pm_callB (cm_len rfl) T.n_len bt_len (pma_cons (pm_ix rfl (pm_var 0) (pm_int)) (pma_nil))) (nomark _)) (pms_cons (pm_put (pm_var 0) (pm_int) (pm_op (om_mod) (pm_op (om_add rfl) (pm_op (om_mul rfl) (pm_ix rfl (pm_var 0) (pm_int)) (pm_int)) (pm_int)) (pm_int))) (pms_one (pm_ret (pm_op (om_mod) (pm_op (om_fdiv) (pm_ix rfl (pm_var 0) (pm_int)) (pm_int)) (pm_var 1))))) (pms_nil)) (pms_cons (pm_set (i := 2) sc.nd rfl (by first | exact Or.inl rfl | exact Or.inr rfl) (pm_ix rfl (pm_ix rfl (pm_var 0) (pm_int)) (pm_op (om_sub) (pm_ix rfl (pm_var 0) (pm_int)) (pm_int)))) (pms_cons (pm_put (pm_var 0) (pm_int) (pm_op (om_mod) (pm_op (om_add rfl) (pm_op (om_add rfl) (pm_op (om_mul rfl) (pm_ix rfl (pm_var 0) (pm_int)) (pm_int)) (pm_var 2)) (pm_int)) (pm_int))) (pms_one (pm_ret (pm_op (om_mod) (pm_var 2) (pm_var 1)))))))
theorem sc_lw_names : FnScope ["_law_row", "_law_turn", "_law_shift", "_law_signs", "_law_base", "_law_k"] ["_law_row"] (defScope st_lw_names) := ⟨rfl, rfl, rfl, by decide +kernel, rfl, by decide +kernel, by decide +kernel⟩
theorem ok_lw_names (T : Tx K mg cls) (c1 : Cal P w K mg base cls "_law_taken" 1 ["_law_row", "_law_many"] m_lw_taken) : Cal P w K mg base cls "_law_names" 2 ["_law_row"] m_lw_names := by
  obtain ⟨f1, fd1, g1, k1, b1, G1⟩ := c1.ex
  obtain ⟨f, fd, g, k, F, b⟩ := T.d_lw_names.ex
  refine ⟨f, fd, g, k, b, okM F sc_lw_names rfl rfl (by decide) fun cdv A outer s H E hr => ?_⟩
  have sc := sc_lw_names
  have h1 := hr.mono (show 1 ≤ 1 by decide)
  exact pms_cons (pm_set (i := 1) sc.nd rfl (by first | exact Or.inl rfl | exact Or.inr rfl) (pm_call G1 h1 g1 k1 b1 (fun σ => passAt (takes_of rfl rfl rfl rfl) σ) (pma_cons (pm_var 0) (pma_cons (pm_int) (pma_nil))))) (pms_cons (pm_set (i := 2) sc.nd rfl (by first | exact Or.inl rfl | exact Or.inr rfl) (pm_call G1 h1 g1 k1 b1 (fun σ => passAt (takes_of rfl rfl rfl rfl) σ) (pma_cons (pm_var 0) (pma_cons (pm_int) (pma_nil))))) (pms_cons (pm_set (i := 3) sc.nd rfl (by first | exact Or.inl rfl | exact Or.inr rfl) (pm_lc (own := [("_law_k", 5)]) (G := gName 5) rfl sc.nd (pmi_rng1 T.n_range (pma_cons (pm_int) (pma_nil))) (blkOk_by (N := ["_law_row", "_law_turn", "_law_shift", "_law_signs", "_law_base", "_law_k"]) (sc := defScope st_lw_names) (by decide +kernel)) (tgLc_name (by decide)) (fun _ _ _ _ _ => pg_name (i := 5) sc.nd rfl (by first | exact Or.inl rfl | exact Or.inr rfl)) (fun _ _ _ _ _ => pmts_nil) (fun _ _ _ _ _ => pm_ix rfl (pm_str) (pm_op (om_mod) (pm_op (om_add rfl) (pm_var 1) (pm_op (om_mul rfl) (pm_int) (pm_var 5))) (pm_int))))) (pms_cons (pm_set (i := 4) sc.nd rfl (by first | exact Or.inl rfl | exact Or.inr rfl) (pm_bm rfl (ms_join rfl) PySem.F.plainAttrs_str PySem.F.slot_str_join PySem.F.type_str_join (pm_str) (pma_cons (pm_slice rfl (pm_var 3) (pmo_some (pm_int)) (pmo_none)) (pma_nil)))) (pms_one (pm_ret (pm_lc (own := [("_law_k", 5)]) (G := gName 5) rfl sc.nd (pmi_rng1 T.n_range (pma_cons (pm_int) (pma_nil))) (blkOk_by (N := ["_law_row", "_law_turn", "_law_shift", "_law_signs", "_law_base", "_law_k"]) (sc := defScope st_lw_names) (by decide +kernel)) (tgLc_name (by decide)) (fun _ _ _ _ _ => pg_name (i := 5) sc.nd rfl (by first | exact Or.inl rfl | exact Or.inr rfl)) (fun _ _ _ _ _ => pmts_nil) (fun _ _ _ _ _ => pm_op (om_add rfl) (pm_slice rfl (pm_var 4) (pmo_none) (pmo_some (pm_op (om_mod) (pm_op (om_add rfl) (pm_var 2) (pm_op (om_mul rfl) (pm_int) (pm_var 5))) (pm_int)))) (pm_ix rfl (pm_var 3) (pm_var 5)))))))))
theorem sc_lw_person : FnScope ["_law_row", "_law_name", "_law_zones", "_law_free_here", "_law_led", "_law_zone", "_law_way", "_law_most", "_law_since", "_law_goal"] ["_law_row", "_law_name", "_law_zones"] (defScope st_lw_person) := ⟨rfl, rfl, rfl, by decide +kernel, rfl, by decide +kernel, by decide +kernel⟩
theorem ok_lw_person (T : Tx K mg cls) (c1 : Cal P w K mg base cls "_law_taken" 1 ["_law_row", "_law_many"] m_lw_taken) : Cal P w K mg base cls "_law_person" 2 ["_law_row", "_law_name", "_law_zones"] m_lw_person := by
  obtain ⟨f1, fd1, g1, k1, b1, G1⟩ := c1.ex
  obtain ⟨f, fd, g, k, F, b⟩ := T.d_lw_person.ex
  refine ⟨f, fd, g, k, b, okM F sc_lw_person rfl rfl (by decide) fun cdv A outer s H E hr => ?_⟩
  have sc := sc_lw_person
  have h1 := hr.mono (show 1 ≤ 1 by decide)
  exact pms_cons (pm_set (i := 3) sc.nd rfl (by first | exact Or.inl rfl | exact Or.inr rfl) (pm_lstC (pma_nil))) (pms_cons (pm_set (i := 4) sc.nd rfl (by first | exact Or.inl rfl | exact Or.inr rfl) (pm_lstC (pma_nil))) (pms_cons (pms_for (passes_of rfl) rfl (pmi_rng2 T.n_range (pma_cons (pm_int) (pma_cons (pm_var 2) (pma_nil)))) (pmg_name (i := 5) sc.nd rfl (by first | exact Or.inl rfl | exact Or.inr rfl)) (pms_cons (pm_set (i := 6) sc.nd rfl (by first | exact Or.inl rfl | exact Or.inr rfl) (pm_call G1 h1 g1 k1 b1 (fun σ => passAt (takes_of rfl rfl rfl rfl) σ) (pma_cons (pm_var 0) (pma_cons (pm_int) (pma_nil))))) (pms_one (pms_if (pmt_cmp om_lt (pm_var 6) (pm_int) (nomark _)) (pms_one (pm_expr (pm_bm rfl ms_append PySem.F.plainAttrs_list PySem.F.slot_list_append PySem.F.type_list_append (pm_var 3) (pma_cons (pm_var 5) (pma_nil))))) (pms_one (pms_if (pmt_cmp om_lt (pm_var 6) (pm_int) (nomark _)) (pms_one (pm_expr (pm_bm rfl ms_append PySem.F.plainAttrs_list PySem.F.slot_list_append PySem.F.type_list_append (pm_var 4) (pma_cons (pm_var 5) (pma_nil))))) (pms_nil))))))) (pms_frz 3 (pms_frz 4 (pms_cons (pm_set (i := 7) sc.nd rfl (by first | exact Or.inl rfl | exact Or.inr rfl) (pm_ix rfl (pm_lst (pma_cons (pm_int) (pma_cons (pm_int) (pma_cons (pm_int) (pma_cons (pm_int) (pma_cons (pm_call G1 h1 g1 k1 b1 (fun σ => passAt (takes_of rfl rfl rfl rfl) σ) (pma_cons (pm_var 0) (pma_cons (pm_int) (pma_nil)))) (pma_nil))))))) (pm_call G1 h1 g1 k1 b1 (fun σ => passAt (takes_of rfl rfl rfl rfl) σ) (pma_cons (pm_var 0) (pma_cons (pm_int) (pma_nil)))))) (pms_cons (pm_set (i := 8) sc.nd rfl (by first | exact Or.inl rfl | exact Or.inr rfl) (pm_ix rfl (pm_lst (pma_cons (pm_int) (pma_cons (pm_int) (pma_cons (pm_int) (pma_cons (pm_call G1 h1 g1 k1 b1 (fun σ => passAt (takes_of rfl rfl rfl rfl) σ) (pma_cons (pm_var 0) (pma_cons (pm_int) (pma_nil)))) (pma_nil)))))) (pm_call G1 h1 g1 k1 b1 (fun σ => passAt (takes_of rfl rfl rfl rfl) σ) (pma_cons (pm_var 0) (pma_cons (pm_int) (pma_nil)))))) (pms_cons (pm_set (i := 9) sc.nd rfl (by first | exact Or.inl rfl | exact Or.inr rfl) (pm_ix rfl (pm_lst (pma_cons (pm_op (om_sub) (pm_var 2) (pm_int)) (pma_cons (pm_op (om_sub) (pm_var 2) (pm_int)) (pma_cons (pm_op (om_sub) (pm_call G1 h1 g1 k1 b1 (fun σ => passAt (takes_of rfl rfl rfl rfl) σ) (pma_cons (pm_var 0) (pma_cons (pm_op (om_add rfl) (pm_var 2) (pm_int)) (pma_nil)))) (pm_int)) (pma_nil))))) (pm_call G1 h1 g1 k1 b1 (fun σ => passAt (takes_of rfl rfl rfl rfl) σ) (pma_cons (pm_var 0) (pma_cons (pm_int) (pma_nil)))))) (pms_one (pm_ret (pm_tup (pma_cons (pm_var 1) (pma_cons (pm_int) (pma_cons (pm_var 9) (pma_cons (pm_var 7) (pma_cons (pm_var 8) (pma_cons (pm_callTy (cm_tuple rfl) T.n_tuple bt_tuple (pma_cons (pm_var 3) (pma_nil))) (pma_cons (pm_callTy (cm_tuple rfl) T.n_tuple bt_tuple (pma_cons (pm_var 4) (pma_nil))) (pma_nil))))))))))))))))))
theorem sc_lw_free : FnScope ["_law_house_here", "_law_person_here", "_law_zone"] ["_law_house_here", "_law_person_here", "_law_zone"] (defScope st_lw_free) := ⟨rfl, rfl, rfl, by decide +kernel, rfl, by decide +kernel, by decide +kernel⟩
theorem ok_lw_free (T : Tx K mg cls)  : Cal P w K mg base cls "_law_free" 1 ["_law_house_here", "_law_person_here", "_law_zone"] m_lw_free := by
  obtain ⟨f, fd, g, k, F, b⟩ := T.d_lw_free.ex
  refine ⟨f, fd, g, k, b, okM F sc_lw_free rfl rfl (by decide) fun cdv A outer s H E hr => ?_⟩
  have sc := sc_lw_free
  exact pms_one (pm_ret (pm_or (pm_cmp (om_eq rfl hr.units) (pm_var 2) (pm_int) (nomark _)) (pm_one (pm_cmp (om_in rfl) (pm_var 2) (pm_ix rfl (pm_ix rfl (pm_ix rfl (pm_var 0) (pm_int)) (pm_var 1)) (pm_int)) (by with_unfolding_all rfl)))))
theorem sc_lw_left : FnScope ["_law_house_here", "_law_state", "_law_person_here", "_law_zone", "_law_here", "_law_bound", "_law_hands", "_law_k"] ["_law_house_here", "_law_state"] (defScope st_lw_left) := ⟨rfl, rfl, rfl, by decide +kernel, rfl, by decide +kernel, by decide +kernel⟩
theorem ok_lw_left (T : Tx K mg cls) (c1 : Cal P w K mg base cls "_law_free" 1 ["_law_house_here", "_law_person_here", "_law_zone"] m_lw_free) : Cal P w K mg base cls "_law_left" 2 ["_law_house_here", "_law_state"] m_lw_left := by
  obtain ⟨f1, fd1, g1, k1, b1, G1⟩ := c1.pure.ex
  obtain ⟨f, fd, g, k, F, b⟩ := T.d_lw_left.ex
  refine ⟨f, fd, g, k, b, okM F sc_lw_left rfl rfl (by decide) fun cdv A outer s H E hr => ?_⟩
  have sc := sc_lw_left
  have h1 := hr.mono (show 1 ≤ 1 by decide)
  exact pms_cons (pms_for (passes_of rfl) rfl (pmi_rng1 T.n_range (pma_cons (pm_callB (cm_len rfl) T.n_len bt_len (pma_cons (pm_var 1) (pma_nil))) (pma_nil))) (pmg_name (i := 2) sc.nd rfl (by first | exact Or.inl rfl | exact Or.inr rfl)) (pms_cons (pm_set (i := 3) sc.nd rfl (by first | exact Or.inl rfl | exact Or.inr rfl) (pm_ix rfl (pm_var 1) (pm_var 2))) (pms_one (pms_if (pmt_not (pmt_val (pm_call G1 h1 g1 k1 b1 (fun σ => passAt (takes_of rfl rfl rfl rfl) σ) (pma_cons (pm_var 0) (pma_cons (pm_var 2) (pma_cons (pm_var 3) (pma_nil))))))) (pms_cons (pm_setLc (i := 4) rfl sc.nd rfl rfl (sw_true rfl rfl rfl (by decide +kernel)) (own := [("_law_k", 7)]) (G := gName 7) (pmi_rng1 T.n_range (pma_cons (pm_callB (cm_len rfl) T.n_len bt_len (pma_cons (pm_var 1) (pma_nil))) (pma_nil))) (blkOk_by (N := ["_law_house_here", "_law_state", "_law_person_here", "_law_zone", "_law_here", "_law_bound", "_law_hands", "_law_k"]) (sc := defScope st_lw_left) (by decide +kernel)) (tgLc_name (by decide)) (fun _ _ _ _ _ => pg_name (i := 7) sc.nd rfl (by first | exact Or.inl rfl | exact Or.inr rfl)) (fun _ _ _ _ _ => pmts_one (pmt_cmp (om_eq rfl hr.units) (pm_ix rfl (pm_var 1) (pm_var 7)) (pm_var 3) (nomark _))) (fun _ _ _ _ _ => pm_var 7)) (pms_cons (pm_set (i := 5) sc.nd rfl (by first | exact Or.inl rfl | exact Or.inr rfl) (pm_lc (own := [("_law_k", 7)]) (G := gName 7) rfl sc.nd (pmi_items rfl (pm_var 4)) (blkOk_by (N := ["_law_house_here", "_law_state", "_law_person_here", "_law_zone", "_law_here", "_law_bound", "_law_hands", "_law_k"]) (sc := defScope st_lw_left) (by decide +kernel)) (tgLc_name (by decide)) (fun _ _ _ _ _ => pg_name (i := 7) sc.nd rfl (by first | exact Or.inl rfl | exact Or.inr rfl)) (fun _ _ _ _ _ => pmts_one (pmt_not (pmt_val (pm_call G1 h1 g1 k1 b1 (fun σ => passAt takes0 σ) (pma_cons (pm_var 0) (pma_cons (pm_var 7) (pma_cons (pm_var 3) (pma_nil)))))))) (fun _ _ _ _ _ => pm_var 7))) (pms_cons (pm_set (i := 6) sc.nd rfl (by first | exact Or.inl rfl | exact Or.inr rfl) (pm_callB (cm_sum rfl rfl) T.n_sum bt_sum (pma_cons (pm_lc (own := [("_law_k", 7)]) (G := gName 7) rfl sc.nd (pmi_items rfl (pm_var 4)) (blkOk_by (N := ["_law_house_here", "_law_state", "_law_person_here", "_law_zone", "_law_here", "_law_bound", "_law_hands", "_law_k"]) (sc := defScope st_lw_left) (by decide +kernel)) (tgLc_name (by decide)) (fun _ _ _ _ _ => pg_name (i := 7) sc.nd rfl (by first | exact Or.inl rfl | exact Or.inr rfl)) (fun _ _ _ _ _ => pmts_one (pmt_cmp (om_notin rfl) (pm_var 7) (pm_var 5) (by with_unfolding_all rfl))) (fun _ _ _ _ _ => pm_ix rfl (pm_ix rfl (pm_ix rfl (pm_var 0) (pm_int)) (pm_var 7)) (pm_int))) (pma_nil)))) (pms_one (pms_if (pmt_bool (pmt_or (pmt_cmp (om_notin rfl) (pm_var 3) (pm_ix rfl (pm_ix rfl (pm_ix rfl (pm_var 0) (pm_int)) (pm_var 2)) (pm_int)) (by with_unfolding_all rfl)) (pmt_or1 (pmt_cmp om_gt (pm_callB (cm_len rfl) T.n_len bt_len (pma_cons (pm_var 5) (pma_nil))) (pm_var 6) (nomark _))))) (pms_one (pm_ret (pm_var 2))) (pms_nil)))))) (pms_nil))))) (pms_one (pm_ret (pm_non)))
theorem sc_lw_house : FnScope ["_law_row", "_law_zones", "_law_doors", "_law_k", "_law_one", "_law_other", "_law_opens", "_law_shuts", "_law_names_here", "_law_many", "_law_people", "_law_hours", "_law_house_here", "_law_state", "_law_person_here"] ["_law_row"] (defScope st_lw_house) := ⟨rfl, rfl, rfl, by decide +kernel, rfl, by decide +kernel, by decide +kernel⟩
theorem ok_lw_house (T : Tx K mg cls) (c1 : Cal P w K mg base cls "_law_taken" 1 ["_law_row", "_law_many"] m_lw_taken) (c2 : Cal P w K mg base cls "_law_names" 2 ["_law_row"] m_lw_names) (c3 : Cal P w K mg base cls "_law_person" 2 ["_law_row", "_law_name", "_law_zones"] m_lw_person) (c4 : Cal P w K mg base cls "_law_left" 2 ["_law_house_here", "_law_state"] m_lw_left) : Cal P w K mg base cls "_law_house" 3 ["_law_row"] m_lw_house := by
  obtain ⟨f1, fd1, g1, k1, b1, G1⟩ := c1.ex
  obtain ⟨f2, fd2, g2, k2, b2, G2⟩ := c2.row.ex
  obtain ⟨f3, fd3, g3, k3, b3, G3⟩ := c3.row.ex
  obtain ⟨f4, fd4, g4, k4, b4, G4⟩ := c4.pure.ex
  obtain ⟨f, fd, g, k, F, b⟩ := T.d_lw_house.ex
  refine ⟨f, fd, g, k, b, okM F sc_lw_house rfl rfl (by decide) fun cdv A outer s H E hr => ?_⟩
  have sc := sc_lw_house
  have h1 := hr.mono (show 1 ≤ 2 by decide)
  have h2 := hr.mono (show 2 ≤ 2 by decide)
  have h3 := hr.mono (show 2 ≤ 2 by decide)
  have h4 := hr.mono (show 2 ≤ 2 by decide)
  exact pms_cons (pm_set (i := 1) sc.nd rfl (by first | exact Or.inl rfl | exact Or.inr rfl) (pm_ix rfl (pm_lst (pma_cons (pm_int) (pma_cons (pm_int) (pma_cons (pm_int) (pma_cons (pm_int) (pma_cons (pm_int) (pma_nil))))))) (pm_call G1 h1 g1 k1 b1 (fun σ => passAt (takes_of rfl rfl rfl rfl) σ) (pma_cons (pm_var 0) (pma_cons (pm_int) (pma_nil)))))) (pms_cons (pm_set (i := 2) sc.nd rfl (by first | exact Or.inl rfl | exact Or.inr rfl) (pm_lstC (pma_nil))) (pms_cons (pms_for (passes_of rfl) rfl (pmi_rng1 T.n_range (pma_cons (pm_op (om_mul rfl) (pm_call G1 h1 g1 k1 b1 (fun σ => passAt (takes_of rfl rfl rfl rfl) σ) (pma_cons (pm_var 0) (pma_cons (pm_ix rfl (pm_lst (pma_cons (pm_int) (pma_cons (pm_int) (pma_nil)))) (pm_call G1 h1 g1 k1 b1 (fun σ => passAt (takes_of rfl rfl rfl rfl) σ) (pma_cons (pm_var 0) (pma_cons (pm_int) (pma_nil))))) (pma_nil)))) (pm_callTy (cm_int) T.n_int bt_int (pma_cons (pm_cmp om_gt (pm_var 1) (pm_int) (nomark _)) (pma_nil)))) (pma_nil))) (pmg_name (i := 3) sc.nd rfl (by first | exact Or.inl rfl | exact Or.inr rfl)) (pms_cons (pm_set (i := 4) sc.nd rfl (by first | exact Or.inl rfl | exact Or.inr rfl) (pm_call G1 h1 g1 k1 b1 (fun σ => passAt (takes_of rfl rfl rfl rfl) σ) (pma_cons (pm_var 0) (pma_cons (pm_op (om_sub) (pm_var 1) (pm_int)) (pma_nil))))) (pms_cons (pm_set (i := 5) sc.nd rfl (by first | exact Or.inl rfl | exact Or.inr rfl) (pm_op (om_add rfl) (pm_op (om_add rfl) (pm_var 4) (pm_int)) (pm_call G1 h1 g1 k1 b1 (fun σ => passAt (takes_of rfl rfl rfl rfl) σ) (pma_cons (pm_var 0) (pma_cons (pm_op (om_sub) (pm_op (om_sub) (pm_var 1) (pm_int)) (pm_var 4)) (pma_nil)))))) (pms_cons (pm_set (i := 6) sc.nd rfl (by first | exact Or.inl rfl | exact Or.inr rfl) (pm_ix rfl (pm_lst (pma_cons (pm_int) (pma_cons (pm_int) (pma_cons (pm_call G1 h1 g1 k1 b1 (fun σ => passAt (takes_of rfl rfl rfl rfl) σ) (pma_cons (pm_var 0) (pma_cons (pm_int) (pma_nil)))) (pma_nil))))) (pm_call G1 h1 g1 k1 b1 (fun σ => passAt (takes_of rfl rfl rfl rfl) σ) (pma_cons (pm_var 0) (pma_cons (pm_int) (pma_nil)))))) (pms_cons (pm_set (i := 7) sc.nd rfl (by first | exact Or.inl rfl | exact Or.inr rfl) (pm_ix rfl (pm_lst (pma_cons (pm_int) (pma_cons (pm_op (om_add rfl) (pm_op (om_add rfl) (pm_var 6) (pm_int)) (pm_call G1 h1 g1 k1 b1 (fun σ => passAt (takes_of rfl rfl rfl rfl) σ) (pma_cons (pm_var 0) (pma_cons (pm_op (om_sub) (pm_int) (pm_var 6)) (pma_nil))))) (pma_nil)))) (pm_call G1 h1 g1 k1 b1 (fun σ => passAt (takes_of rfl rfl rfl rfl) σ) (pma_cons (pm_var 0) (pma_cons (pm_int) (pma_nil)))))) (pms_one (pm_expr (pm_bm rfl ms_append PySem.F.plainAttrs_list PySem.F.slot_list_append PySem.F.type_list_append (pm_var 2) (pma_cons (pm_tup (pma_cons (pm_var 4) (pma_cons (pm_var 5) (pma_cons (pm_ix rfl (pm_lst (pma_cons (pm_int) (pma_cons (pm_int) (pma_cons (pm_int) (pma_cons (pm_int) (pma_cons (pm_int) (pma_nil))))))) (pm_call G1 h1 g1 k1 b1 (fun σ => passAt (takes_of rfl rfl rfl rfl) σ) (pma_cons (pm_var 0) (pma_cons (pm_int) (pma_nil))))) (pma_cons (pm_var 6) (pma_cons (pm_var 7) (pma_nil))))))) (pma_nil)))))))))) (pms_frz 2 (pms_cons (pm_set (i := 8) sc.nd rfl (by first | exact Or.inl rfl | exact Or.inr rfl) (pm_call G2 h2 g2 k2 b2 (fun σ => passAt (takes_of rfl rfl rfl rfl) σ) (pma_cons (pm_var 0) (pma_nil)))) (pms_cons (pm_set (i := 9) sc.nd rfl (by first | exact Or.inl rfl | exact Or.inr rfl) (pm_op (om_add rfl) (pm_int) (pm_call G1 h1 g1 k1 b1 (fun σ => passAt (takes_of rfl rfl rfl rfl) σ) (pma_cons (pm_var 0) (pma_cons (pm_int) (pma_nil)))))) (pms_cons (pm_set (i := 10) sc.nd rfl (by first | exact Or.inl rfl | exact Or.inr rfl) (pm_lc (own := [("_law_k", 3)]) (G := gName 3) rfl sc.nd (pmi_rng1 T.n_range (pma_cons (pm_var 9) (pma_nil))) (blkOk_by (N := ["_law_row", "_law_zones", "_law_doors", "_law_k", "_law_one", "_law_other", "_law_opens", "_law_shuts", "_law_names_here", "_law_many", "_law_people", "_law_hours", "_law_house_here", "_law_state", "_law_person_here"]) (sc := defScope st_lw_house) (by decide +kernel)) (tgLc_name (by decide)) (fun _ _ _ _ _ => pg_name (i := 3) sc.nd rfl (by first | exact Or.inl rfl | exact Or.inr rfl)) (fun _ _ _ _ _ => pmts_nil) (fun _ _ _ _ _ => pm_call G3 h3 g3 k3 b3 (fun σ => passAt takes0 σ) (pma_cons (pm_var 0) (pma_cons (pm_ix rfl (pm_var 8) (pm_var 3)) (pma_cons (pm_var 1) (pma_nil))))))) (pms_cons (pm_set (i := 11) sc.nd rfl (by first | exact Or.inl rfl | exact Or.inr rfl) (pm_call G1 h1 g1 k1 b1 (fun σ => passAt (takes_of rfl rfl rfl rfl) σ) (pma_cons (pm_var 0) (pma_cons (pm_op (om_sub) (pm_ix rfl (pm_lst (pma_cons (pm_int) (pma_cons (pm_int) (pma_cons (pm_int) (pma_cons (pm_int) (pma_nil)))))) (pm_op (om_sub) (pm_var 9) (pm_int))) (pm_callTy (cm_int) T.n_int bt_int (pma_cons (pm_cmp (om_eq rfl hr.units) (pm_var 1) (pm_int) (nomark _)) (pma_nil)))) (pma_nil))))) (pms_cons (pms_if (pmt_bool (pmt_and (pmt_cmp om_lt (pm_callB (cm_len rfl) T.n_len bt_len (pma_cons (pm_var 2) (pma_nil))) (pm_int) (nomark _)) (pmt_and1 (pmt_cmp (om_eq rfl hr.units) (pm_call G1 h1 g1 k1 b1 (fun σ => passAt (takes_of rfl rfl rfl rfl) σ) (pma_cons (pm_var 0) (pma_cons (pm_int) (pma_nil)))) (pm_int) (nomark _))))) (pms_one (pm_set (i := 11) sc.nd rfl (by first | exact Or.inl rfl | exact Or.inr rfl) (pm_op (om_add rfl) (pm_int) (pm_call G1 h1 g1 k1 b1 (fun σ => passAt (takes_of rfl rfl rfl rfl) σ) (pma_cons (pm_var 0) (pma_cons (pm_int) (pma_nil))))))) (pms_nil)) (pms_cons (pm_set (i := 12) sc.nd rfl (by first | exact Or.inl rfl | exact Or.inr rfl) (pm_tup (pma_cons (pm_var 1) (pma_cons (pm_var 11) (pma_cons (pm_var 2) (pma_cons (pm_var 10) (pma_nil))))))) (pms_cons (pm_set (i := 13) sc.nd rfl (by first | exact Or.inl rfl | exact Or.inr rfl) (pm_callTy (cm_tuple rfl) T.n_tuple bt_tuple (pma_cons (pm_lc (own := [("_law_person_here", 14)]) (G := gName 14) rfl sc.nd (pmi_items rfl (pm_var 10)) (blkOk_by (N := ["_law_row", "_law_zones", "_law_doors", "_law_k", "_law_one", "_law_other", "_law_opens", "_law_shuts", "_law_names_here", "_law_many", "_law_people", "_law_hours", "_law_house_here", "_law_state", "_law_person_here"]) (sc := defScope st_lw_house) (by decide +kernel)) (tgLc_name (by decide)) (fun _ _ _ _ _ => pg_name (i := 14) sc.nd rfl (by first | exact Or.inl rfl | exact Or.inr rfl)) (fun _ _ _ _ _ => pmts_nil) (fun _ _ _ _ _ => pm_call G1 h1 g1 k1 b1 (fun σ => passAt takes0 σ) (pma_cons (pm_var 0) (pma_cons (pm_var 1) (pma_nil))))) (pma_nil)))) (pms_cons (pms_if (pmt_bool (pmt_and (pmt_cmp (om_eq rfl hr.units) (pm_call G1 h1 g1 k1 b1 (fun σ => passAt (takes_of rfl rfl rfl rfl) σ) (pma_cons (pm_var 0) (pma_cons (pm_int) (pma_nil)))) (pm_int) (nomark _)) (pmt_and1 (pmt_cmp om_is (pm_call G4 h4 g4 k4 b4 (fun σ => passAt (takes_of rfl rfl rfl rfl) σ) (pma_cons (pm_var 12) (pma_cons (pm_var 13) (pma_nil)))) (pm_non) (nomark _))))) (pms_one (pm_set (i := 10) sc.nd rfl (by first | exact Or.inl rfl | exact Or.inr rfl) (pm_lc (own := [("_law_k", 3)]) (G := gName 3) rfl sc.nd (pmi_rng1 T.n_range (pma_cons (pm_var 9) (pma_nil))) (blkOk_by (N := ["_law_row", "_law_zones", "_law_doors", "_law_k", "_law_one", "_law_other", "_law_opens", "_law_shuts", "_law_names_here", "_law_many", "_law_people", "_law_hours", "_law_house_here", "_law_state", "_law_person_here"]) (sc := defScope st_lw_house) (by decide +kernel)) (tgLc_name (by decide)) (fun _ _ _ _ _ => pg_name (i := 3) sc.nd rfl (by first | exact Or.inl rfl | exact Or.inr rfl)) (fun _ _ _ _ _ => pmts_nil) (fun _ _ _ _ _ => pm_op (om_add rfl) (pm_op (om_add rfl) (pm_slice rfl (pm_ix rfl (pm_var 10) (pm_var 3)) (pmo_none) (pmo_some (pm_int))) (pm_tup (pma_cons (pm_ix rfl (pm_var 13) (pm_var 3)) (pma_nil)))) (pm_slice rfl (pm_ix rfl (pm_var 10) (pm_var 3)) (pmo_some (pm_int)) (pmo_none)))))) (pms_nil)) (pms_one (pm_ret (pm_tup (pma_cons (pm_var 1) (pma_cons (pm_var 11) (pma_cons (pm_var 2) (pma_cons (pm_var 10) (pma_nil)))))))))))))))))))
theorem sc_groups_of : FnScope ["many", "found", "person", "group"] ["many"] (defScope st_groups_of) := ⟨rfl, rfl, rfl, by decide +kernel, rfl, by decide +kernel, by decide +kernel⟩
theorem ok_groups_of (T : Tx K mg cls)  : Cal P w K mg base cls "groups_of" 1 ["many"] m_groups_of := by
  obtain ⟨f, fd, g, k, F, b⟩ := T.d_groups_of.ex
  refine ⟨f, fd, g, k, b, okM F sc_groups_of rfl rfl (by decide) fun cdv A outer s H E hr => ?_⟩
  have sc := sc_groups_of
  exact pms_cons (pm_set (i := 1) sc.nd rfl (by first | exact Or.inl rfl | exact Or.inr rfl) (pm_lst (pma_cons (pm_tup (pma_nil)) (pma_nil)))) (pms_cons (pms_for (passes_of rfl) rfl (pmi_rng1 T.n_range (pma_cons (pm_var 0) (pma_nil))) (pmg_name (i := 2) sc.nd rfl (by first | exact Or.inl rfl | exact Or.inr rfl)) (pms_one (pm_set (i := 1) sc.nd rfl (by first | exact Or.inl rfl | exact Or.inr rfl) (pm_op (om_add rfl) (pm_var 1) (pm_lc (own := [("group", 3)]) (G := gName 3) rfl sc.nd (pmi_items rfl (pm_var 1)) (blkOk_by (N := ["many", "found", "person", "group"]) (sc := defScope st_groups_of) (by decide +kernel)) (tgLc_name (by decide)) (fun _ _ _ _ _ => pg_name (i := 3) sc.nd rfl (by first | exact Or.inl rfl | exact Or.inr rfl)) (fun _ _ _ _ _ => pmts_nil) (fun _ _ _ _ _ => pm_op (om_add rfl) (pm_var 3) (pm_tup (pma_cons (pm_var 2) (pma_nil))))))))) (pms_one (pm_ret (pm_slice rfl (pm_callB (cm_sortTT rfl hr.units) T.n_sorted bt_sorted (pma_cons (pm_var 1) (pma_nil))) (pmo_some (pm_int)) (pmo_none)))))
theorem sc_first_of : FnScope ["persons"] ["persons"] (defScope st_first_of) := ⟨rfl, rfl, rfl, by decide +kernel, rfl, by decide +kernel, by decide +kernel⟩
theorem ok_first_of (T : Tx K mg cls)  : Cal P w K mg base cls "first_of" 1 ["persons"] m_first_of := by
  obtain ⟨f, fd, g, k, F, b⟩ := T.d_first_of.ex
  refine ⟨f, fd, g, k, b, okM F sc_first_of rfl rfl (by decide) fun cdv A outer s H E hr => ?_⟩
  have sc := sc_first_of
  exact pms_one (pm_ret (pm_if (pmt_cmp (om_ne rfl hr.units) (pm_var 0) (pm_lst (pma_nil)) (nomark _)) (pm_ix rfl (pm_var 0) (pm_int)) (pm_non)))
theorem sc_is_free : FnScope ["house", "person", "zone"] ["house", "person", "zone"] (defScope st_is_free) := ⟨rfl, rfl, rfl, by decide +kernel, rfl, by decide +kernel, by decide +kernel⟩
theorem ok_is_free (T : Tx K mg cls)  : Cal P w K mg base cls "is_free" 1 ["house", "person", "zone"] m_is_free := by
  obtain ⟨f, fd, g, k, F, b⟩ := T.d_is_free.ex
  refine ⟨f, fd, g, k, b, okM F sc_is_free rfl rfl (by decide) fun cdv A outer s H E hr => ?_⟩
  have sc := sc_is_free
  exact pms_one (pm_ret (pm_or (pm_cmp (om_eq rfl hr.units) (pm_var 2) (pm_int) (nomark _)) (pm_one (pm_cmp (om_in rfl) (pm_var 2) (pm_ix rfl (pm_ix rfl (pm_fld 0 3 rfl (T.c0.ok (by decide)) rfl (pm_var 0)) (pm_var 1)) (pm_gint T.g_FREE)) (by with_unfolding_all rfl)))))
theorem sc_led_ones : FnScope ["house", "persons", "zones", "person", "zone"] ["house", "persons", "zones"] (defScope st_led_ones) := ⟨rfl, rfl, rfl, by decide +kernel, rfl, by decide +kernel, by decide +kernel⟩
theorem ok_led_ones (T : Tx K mg cls) (c1 : Cal P w K mg base cls "is_free" 1 ["house", "person", "zone"] m_is_free) : Cal P w K mg base cls "led_ones" 2 ["house", "persons", "zones"] m_led_ones := by
  obtain ⟨f1, fd1, g1, k1, b1, G1⟩ := c1.ex
  obtain ⟨f, fd, g, k, F, b⟩ := T.d_led_ones.ex
  refine ⟨f, fd, g, k, b, okM F sc_led_ones rfl rfl (by decide) fun cdv A outer s H E hr => ?_⟩
  have sc := sc_led_ones
  have h1 := hr.mono (show 1 ≤ 1 by decide)
  exact pms_one (pm_ret (pm_lc (own := [("person", 3)]) (G := gName 3) rfl sc.nd (pmi_items rfl (pm_var 1)) (blkOk_by (N := ["house", "persons", "zones", "person", "zone"]) (sc := defScope st_led_ones) (by decide +kernel)) (tgLc_name (by decide)) (fun _ _ _ _ _ => pg_name (i := 3) sc.nd rfl (by first | exact Or.inl rfl | exact Or.inr rfl)) (fun _ _ _ _ _ => pmts_one (pmt_cmp (om_ne rfl hr.units) (pm_lc (own := [("zone", 4)]) (G := gName 4) rfl sc.nd (pmi_items rfl (pm_var 2)) (blkOk_by (N := ["house", "persons", "zones", "person", "zone"]) (by first | rfl | with_unfolding_all rfl | kernel_rfl)) (tgLc_name (by decide)) (fun _ _ _ _ _ => pg_name (i := 4) sc.nd rfl (by first | exact Or.inl rfl | exact Or.inr rfl)) (fun _ _ _ _ _ => pmts_one (pmt_not (pmt_val (pm_call G1 h1 g1 k1 b1 (fun σ => passAt takes0 σ) (pma_cons (pm_var 0) (pma_cons (pm_var 3) (pma_cons (pm_var 4) (pma_nil)))))))) (fun _ _ _ _ _ => pm_var 4)) (pm_lst (pma_nil)) (nomark _))) (fun _ _ _ _ _ => pm_var 3)))
theorem sc_may_be : FnScope ["house", "person", "zone"] ["house", "person", "zone"] (defScope st_may_be) := ⟨rfl, rfl, rfl, by decide +kernel, rfl, by decide +kernel, by decide +kernel⟩
theorem ok_may_be (T : Tx K mg cls) (c1 : Cal P w K mg base cls "is_free" 1 ["house", "person", "zone"] m_is_free) : Cal P w K mg base cls "may_be" 2 ["house", "person", "zone"] m_may_be := by
  obtain ⟨f1, fd1, g1, k1, b1, G1⟩ := c1.ex
  obtain ⟨f, fd, g, k, F, b⟩ := T.d_may_be.ex
  refine ⟨f, fd, g, k, b, okM F sc_may_be rfl rfl (by decide) fun cdv A outer s H E hr => ?_⟩
  have sc := sc_may_be
  have h1 := hr.mono (show 1 ≤ 1 by decide)
  exact pms_one (pm_ret (pm_or (pm_call G1 h1 g1 k1 b1 (fun σ => passAt (takes_of rfl rfl rfl rfl) σ) (pma_cons (pm_var 0) (pma_cons (pm_var 1) (pma_cons (pm_var 2) (pma_nil))))) (pm_one (pm_cmp (om_in rfl) (pm_var 2) (pm_ix rfl (pm_ix rfl (pm_fld 0 3 rfl (T.c0.ok (by decide)) rfl (pm_var 0)) (pm_var 1)) (pm_gint T.g_LED)) (by with_unfolding_all rfl)))))
theorem sc_can_lead : FnScope ["house", "persons", "zones", "leaders", "person"] ["house", "persons", "zones"] (defScope st_can_lead) := ⟨rfl, rfl, rfl, by decide +kernel, rfl, by decide +kernel, by decide +kernel⟩
theorem ok_can_lead (T : Tx K mg cls) (c1 : Cal P w K mg base cls "led_ones" 2 ["house", "persons", "zones"] m_led_ones) : Cal P w K mg base cls "can_lead" 3 ["house", "persons", "zones"] m_can_lead_01 := by
  obtain ⟨f1, fd1, g1, k1, b1, G1⟩ := c1.ex
  obtain ⟨f, fd, g, k, F, b⟩ := T.d_can_lead.ex
  refine ⟨f, fd, g, k, b, okM F sc_can_lead rfl rfl (by decide) fun cdv A outer s H E hr => ?_⟩
  have sc := sc_can_lead
  have h1 := hr.mono (show 2 ≤ 2 by decide)
  exact pms_cons (pm_setLc (i := 3) rfl sc.nd rfl rfl (sw_true rfl rfl rfl (by decide +kernel)) (own := [("person", 4)]) (G := gName 4) (pmi_items rfl (pm_var 1)) (blkOk_by (N := ["house", "persons", "zones", "leaders", "person"]) (sc := defScope st_can_lead) (by decide +kernel)) (tgLc_name (by decide)) (fun _ _ _ _ _ => pg_name (i := 4) sc.nd rfl (by first | exact Or.inl rfl | exact Or.inr rfl)) (fun _ _ _ _ _ => pmts_one (pmt_cmp (om_notin rfl) (pm_var 4) (pm_call G1 h1 g1 k1 b1 (fun σ => passAt takes0 σ) (pma_cons (pm_var 0) (pma_cons (pm_var 1) (pma_cons (pm_var 2) (pma_nil))))) (by with_unfolding_all rfl))) (fun _ _ _ _ _ => pm_var 4)) (pms_one (pm_ret (pm_callB (cm_sum rfl rfl) T.n_sum bt_sum (pma_cons (pm_lc (own := [("person", 4)]) (G := gName 4) rfl sc.nd (pmi_items rfl (pm_var 3)) (blkOk_by (N := ["house", "persons", "zones", "leaders", "person"]) (sc := defScope st_can_lead) (by decide +kernel)) (tgLc_name (by decide)) (fun _ _ _ _ _ => pg_name (i := 4) sc.nd rfl (by first | exact Or.inl rfl | exact Or.inr rfl)) (fun _ _ _ _ _ => pmts_nil) (fun _ _ _ _ _ => pm_ix rfl (pm_ix rfl (pm_fld 0 3 rfl (T.c0.ok (by decide)) rfl (pm_var 0)) (pm_var 4)) (pm_gint T.g_MOST_rules))) (pma_nil)))))
theorem sc_left_one : FnScope ["house", "state", "person", "zone", "here", "other"] ["house", "state"] (defScope st_left_one) := ⟨rfl, rfl, rfl, by decide +kernel, rfl, by decide +kernel, by decide +kernel⟩
theorem ok_left_one (T : Tx K mg cls) (c1 : Cal P w K mg base cls "may_be" 2 ["house", "person", "zone"] m_may_be) (c2 : Cal P w K mg base cls "is_free" 1 ["house", "person", "zone"] m_is_free) (c3 : Cal P w K mg base cls "led_ones" 2 ["house", "persons", "zones"] m_led_ones) (c4 : Cal P w K mg base cls "can_lead" 3 ["house", "persons", "zones"] m_can_lead_01) : Cal P w K mg base cls "left_one" 4 ["house", "state"] m_left_one_01 := by
  obtain ⟨f1, fd1, g1, k1, b1, G1⟩ := c1.ex
  obtain ⟨f2, fd2, g2, k2, b2, G2⟩ := c2.ex
  obtain ⟨f3, fd3, g3, k3, b3, G3⟩ := c3.ex
  obtain ⟨f4, fd4, g4, k4, b4, G4⟩ := c4.ex
  obtain ⟨f, fd, g, k, F, b⟩ := T.d_left_one.ex
  refine ⟨f, fd, g, k, b, okM F sc_left_one rfl rfl (by decide) fun cdv A outer s H E hr => ?_⟩
  have sc := sc_left_one
  have h1 := hr.mono (show 2 ≤ 3 by decide)
  have h2 := hr.mono (show 1 ≤ 3 by decide)
  have h3 := hr.mono (show 2 ≤ 3 by decide)
  have h4 := hr.mono (show 3 ≤ 3 by decide)
  exact pms_cons (pms_for (passes_of rfl) rfl (pmi_rng1 T.n_range (pma_cons (pm_callB (cm_len rfl) T.n_len bt_len (pma_cons (pm_var 1) (pma_nil))) (pma_nil))) (pmg_name (i := 2) sc.nd rfl (by first | exact Or.inl rfl | exact Or.inr rfl)) (pms_cons (pm_set (i := 3) sc.nd rfl (by first | exact Or.inl rfl | exact Or.inr rfl) (pm_ix rfl (pm_var 1) (pm_var 2))) (pms_cons (pms_if (pmt_not (pmt_val (pm_call G1 h1 g1 k1 b1 (fun σ => passAt (takes_of rfl rfl rfl rfl) σ) (pma_cons (pm_var 0) (pma_cons (pm_var 2) (pma_cons (pm_var 3) (pma_nil))))))) (pms_one (pm_ret (pm_var 2))) (pms_nil)) (pms_cons (pm_setLc (i := 4) rfl sc.nd rfl rfl (sw_true rfl rfl rfl (by decide +kernel)) (own := [("other", 5)]) (G := gName 5) (pmi_rng1 T.n_range (pma_cons (pm_callB (cm_len rfl) T.n_len bt_len (pma_cons (pm_var 1) (pma_nil))) (pma_nil))) (blkOk_by (N := ["house", "state", "person", "zone", "here", "other"]) (sc := defScope st_left_one) (by decide +kernel)) (tgLc_name (by decide)) (fun _ _ _ _ _ => pg_name (i := 5) sc.nd rfl (by first | exact Or.inl rfl | exact Or.inr rfl)) (fun _ _ _ _ _ => pmts_one (pmt_cmp (om_eq rfl hr.units) (pm_ix rfl (pm_var 1) (pm_var 5)) (pm_var 3) (nomark _))) (fun _ _ _ _ _ => pm_var 5)) (pms_one (pms_if (pmt_bool (pmt_and (pmt_not (pmt_val (pm_call G2 h2 g2 k2 b2 (fun σ => passAt (takes_of rfl rfl rfl rfl) σ) (pma_cons (pm_var 0) (pma_cons (pm_var 2) (pma_cons (pm_var 3) (pma_nil))))))) (pmt_and1 (pmt_cmp om_gt (pm_callB (cm_len rfl) T.n_len bt_len (pma_cons (pm_call G3 h3 g3 k3 b3 (fun σ => passAt (takes_of rfl rfl rfl rfl) σ) (pma_cons (pm_var 0) (pma_cons (pm_var 4) (pma_cons (pm_lst (pma_cons (pm_var 3) (pma_nil))) (pma_nil))))) (pma_nil))) (pm_call G4 h4 g4 k4 b4 (fun σ => passAt (takes_of rfl rfl rfl rfl) σ) (pma_cons (pm_var 0) (pma_cons (pm_var 4) (pma_cons (pm_lst (pma_cons (pm_var 3) (pma_nil))) (pma_nil))))) (nomark _))))) (pms_one (pm_ret (pm_var 2))) (pms_nil))))))) (pms_one (pm_ret (pm_non)))
theorem sc_moved : FnScope ["state", "group", "zone", "person"] ["state", "group", "zone"] (defScope st_moved) := ⟨rfl, rfl, rfl, by decide +kernel, rfl, by decide +kernel, by decide +kernel⟩
theorem ok_moved (T : Tx K mg cls)  : Cal P w K mg base cls "moved" 1 ["state", "group", "zone"] m_moved := by
  obtain ⟨f, fd, g, k, F, b⟩ := T.d_moved.ex
  refine ⟨f, fd, g, k, b, okM F sc_moved rfl rfl (by decide) fun cdv A outer s H E hr => ?_⟩
  have sc := sc_moved
  exact pms_one (pm_ret (pm_callTy (cm_tuple rfl) T.n_tuple bt_tuple (pma_cons (pm_lc (own := [("person", 3)]) (G := gName 3) rfl sc.nd (pmi_rng1 T.n_range (pma_cons (pm_callB (cm_len rfl) T.n_len bt_len (pma_cons (pm_var 0) (pma_nil))) (pma_nil))) (blkOk_by (N := ["state", "group", "zone", "person"]) (sc := defScope st_moved) (by decide +kernel)) (tgLc_name (by decide)) (fun _ _ _ _ _ => pg_name (i := 3) sc.nd rfl (by first | exact Or.inl rfl | exact Or.inr rfl)) (fun _ _ _ _ _ => pmts_nil) (fun _ _ _ _ _ => pm_if (pmt_cmp (om_in rfl) (pm_var 3) (pm_var 1) (by with_unfolding_all rfl)) (pm_var 2) (pm_ix rfl (pm_var 0) (pm_var 3)))) (pma_nil))))
theorem sc_bar_of_going : FnScope ["house", "state", "group", "here", "there", "strange", "led", "left", "person"] ["house", "state", "group", "here", "there"] (defScope st_bar_of_going) := ⟨rfl, rfl, rfl, by decide +kernel, rfl, by decide +kernel, by decide +kernel⟩
theorem ok_bar_of_going (T : Tx K mg cls) (c1 : Cal P w K mg base cls "first_of" 1 ["persons"] m_first_of) (c2 : Cal P w K mg base cls "may_be" 2 ["house", "person", "zone"] m_may_be) (c3 : Cal P w K mg base cls "led_ones" 2 ["house", "persons", "zones"] m_led_ones) (c4 : Cal P w K mg base cls "can_lead" 3 ["house", "persons", "zones"] m_can_lead_01) (c5 : Cal P w K mg base cls "left_one" 4 ["house", "state"] m_left_one_01) (c6 : Cal P w K mg base cls "moved" 1 ["state", "group", "zone"] m_moved) : Cal P w K mg base cls "bar_of_going" 5 ["house", "state", "group", "here", "there"] m_bar_of_going_01 := by
  obtain ⟨f1, fd1, g1, k1, b1, G1⟩ := c1.ex
  obtain ⟨f2, fd2, g2, k2, b2, G2⟩ := c2.ex
  obtain ⟨f3, fd3, g3, k3, b3, G3⟩ := c3.ex
  obtain ⟨f4, fd4, g4, k4, b4, G4⟩ := c4.ex
  obtain ⟨f5, fd5, g5, k5, b5, G5⟩ := c5.ex
  obtain ⟨f6, fd6, g6, k6, b6, G6⟩ := c6.ex
  obtain ⟨f, fd, g, k, F, b⟩ := T.d_bar_of_going.ex
  refine ⟨f, fd, g, k, b, okM F sc_bar_of_going rfl rfl (by decide) fun cdv A outer s H E hr => ?_⟩
  have sc := sc_bar_of_going
  have h1 := hr.mono (show 1 ≤ 4 by decide)
  have h2 := hr.mono (show 2 ≤ 4 by decide)
  have h3 := hr.mono (show 2 ≤ 4 by decide)
  have h4 := hr.mono (show 3 ≤ 4 by decide)
  have h5 := hr.mono (show 4 ≤ 4 by decide)
  have h6 := hr.mono (show 1 ≤ 4 by decide)
  exact pms_cons (pm_set (i := 5) sc.nd rfl (by first | exact Or.inl rfl | exact Or.inr rfl) (pm_call G1 h1 g1 k1 b1 (fun σ => passAt (takes_of rfl rfl rfl rfl) σ) (pma_cons (pm_lc (own := [("person", 8)]) (G := gName 8) rfl sc.nd (pmi_items rfl (pm_var 2)) (blkOk_by (N := ["house", "state", "group", "here", "there", "strange", "led", "left", "person"]) (sc := defScope st_bar_of_going) (by decide +kernel)) (tgLc_name (by decide)) (fun _ _ _ _ _ => pg_name (i := 8) sc.nd rfl (by first | exact Or.inl rfl | exact Or.inr rfl)) (fun _ _ _ _ _ => pmts_one (pmt_not (pmt_val (pm_call G2 h2 g2 k2 b2 (fun σ => passAt takes0 σ) (pma_cons (pm_var 0) (pma_cons (pm_var 8) (pma_cons (pm_var 4) (pma_nil)))))))) (fun _ _ _ _ _ => pm_var 8)) (pma_nil)))) (pms_cons (pms_if (pmt_cmp om_isnot (pm_var 5) (pm_non) (nomark _)) (pms_one (pm_ret (pm_tup (pma_cons (pm_str) (pma_cons (pm_var 5) (pma_nil)))))) (pms_nil)) (pms_cons (pm_set (i := 6) sc.nd rfl (by first | exact Or.inl rfl | exact Or.inr rfl) (pm_call G3 h3 g3 k3 b3 (fun σ => passAt (takes_of rfl rfl rfl rfl) σ) (pma_cons (pm_var 0) (pma_cons (pm_var 2) (pma_cons (pm_lst (pma_cons (pm_var 3) (pma_cons (pm_var 4) (pma_nil)))) (pma_nil)))))) (pms_cons (pms_if (pmt_cmp om_gt (pm_callB (cm_len rfl) T.n_len bt_len (pma_cons (pm_var 6) (pma_nil))) (pm_call G4 h4 g4 k4 b4 (fun σ => passAt (takes_of rfl rfl rfl rfl) σ) (pma_cons (pm_var 0) (pma_cons (pm_var 2) (pma_cons (pm_lst (pma_cons (pm_var 3) (pma_cons (pm_var 4) (pma_nil)))) (pma_nil))))) (nomark _)) (pms_one (pm_ret (pm_tup (pma_cons (pm_str) (pma_cons (pm_ix rfl (pm_var 6) (pm_int)) (pma_nil)))))) (pms_nil)) (pms_cons (pm_set (i := 7) sc.nd rfl (by first | exact Or.inl rfl | exact Or.inr rfl) (pm_call G5 h5 g5 k5 b5 (fun σ => passAt (takes_of rfl rfl rfl rfl) σ) (pma_cons (pm_var 0) (pma_cons (pm_call G6 h6 g6 k6 b6 (fun σ => passAt (takes_of rfl rfl rfl rfl) σ) (pma_cons (pm_var 1) (pma_cons (pm_var 2) (pma_cons (pm_var 4) (pma_nil))))) (pma_nil))))) (pms_cons (pms_if (pmt_cmp om_isnot (pm_var 7) (pm_non) (nomark _)) (pms_one (pm_ret (pm_tup (pma_cons (pm_str) (pma_cons (pm_var 7) (pma_nil)))))) (pms_nil)) (pms_one (pm_ret (pm_non))))))))
theorem sc_bar_of : FnScope ["house", "hour", "state", "step", "number", "group", "one", "other", "wide", "opens", "shuts", "late", "here", "away", "person"] ["house", "hour", "state", "step"] (defScope st_bar_of) := ⟨rfl, rfl, rfl, by decide +kernel, rfl, by decide +kernel, by decide +kernel⟩
theorem ok_bar_of (T : Tx K mg cls) (c1 : Cal P w K mg base cls "first_of" 1 ["persons"] m_first_of) (c2 : Cal P w K mg base cls "bar_of_going" 5 ["house", "state", "group", "here", "there"] m_bar_of_going_01) : Cal P w K mg base cls "bar_of" 6 ["house", "hour", "state", "step"] m_bar_of_01 := by
  obtain ⟨f1, fd1, g1, k1, b1, G1⟩ := c1.ex
  obtain ⟨f2, fd2, g2, k2, b2, G2⟩ := c2.ex
  obtain ⟨f, fd, g, k, F, b⟩ := T.d_bar_of.ex
  refine ⟨f, fd, g, k, b, okM F sc_bar_of rfl rfl (by decide) fun cdv A outer s H E hr => ?_⟩
  have sc := sc_bar_of
  have h1 := hr.mono (show 1 ≤ 5 by decide)
  have h2 := hr.mono (show 5 ≤ 5 by decide)
  exact pms_cons (pms_if (pmt_cmp (om_eq rfl hr.units) (pm_var 3) (pm_gwait rfl T.g_WAIT) (nomark _)) (pms_one (pm_ret (pm_non))) (pms_nil)) (pms_cons (pm_set (i := 4) sc.nd rfl (by first | exact Or.inl rfl | exact Or.inr rfl) (pm_ix rfl (pm_var 3) (pm_int))) (pms_cons (pm_set (i := 5) sc.nd rfl (by first | exact Or.inl rfl | exact Or.inr rfl) (pm_callTy (cm_list rfl) T.n_list bt_list (pma_cons (pm_ix rfl (pm_var 3) (pm_int)) (pma_nil)))) (pms_cons (pm_asg (pm_ix rfl (pm_fld 0 2 rfl (T.c0.ok (by decide)) rfl (pm_var 0)) (pm_var 4)) (pmg_tup rfl rfl (pmgs_cons (pmg_name (i := 6) sc.nd rfl (by first | exact Or.inl rfl | exact Or.inr rfl)) (pmgs_cons (pmg_name (i := 7) sc.nd rfl (by first | exact Or.inl rfl | exact Or.inr rfl)) (pmgs_cons (pmg_name (i := 8) sc.nd rfl (by first | exact Or.inl rfl | exact Or.inr rfl)) (pmgs_cons (pmg_name (i := 9) sc.nd rfl (by first | exact Or.inl rfl | exact Or.inr rfl)) (pmgs_cons (pmg_name (i := 10) sc.nd rfl (by first | exact Or.inl rfl | exact Or.inr rfl)) (pmgs_nil)))))))) (pms_cons (pms_if (pmt_not (pmt_chain om_le om_lt (pm_var 9) (pm_var 1) (pm_var 10))) (pms_one (pm_ret (pm_tup (pma_cons (pm_str) (pma_cons (pm_var 4) (pma_nil)))))) (pms_nil)) (pms_cons (pm_set (i := 11) sc.nd rfl (by first | exact Or.inl rfl | exact Or.inr rfl) (pm_call G1 h1 g1 k1 b1 (fun σ => passAt (takes_of rfl rfl rfl rfl) σ) (pma_cons (pm_lc (own := [("person", 14)]) (G := gName 14) rfl sc.nd (pmi_items rfl (pm_var 5)) (blkOk_by (N := ["house", "hour", "state", "step", "number", "group", "one", "other", "wide", "opens", "shuts", "late", "here", "away", "person"]) (sc := defScope st_bar_of) (by decide +kernel)) (tgLc_name (by decide)) (fun _ _ _ _ _ => pg_name (i := 14) sc.nd rfl (by first | exact Or.inl rfl | exact Or.inr rfl)) (fun _ _ _ _ _ => pmts_one (pmt_cmp om_gt (pm_ix rfl (pm_ix rfl (pm_fld 0 3 rfl (T.c0.ok (by decide)) rfl (pm_var 0)) (pm_var 14)) (pm_gint T.g_SINCE)) (pm_var 1) (nomark _))) (fun _ _ _ _ _ => pm_var 14)) (pma_nil)))) (pms_cons (pms_if (pmt_cmp om_isnot (pm_var 11) (pm_non) (nomark _)) (pms_one (pm_ret (pm_tup (pma_cons (pm_str) (pma_cons (pm_var 11) (pma_nil)))))) (pms_nil)) (pms_cons (pm_set (i := 12) sc.nd rfl (by first | exact Or.inl rfl | exact Or.inr rfl) (pm_ix rfl (pm_var 2) (pm_ix rfl (pm_var 5) (pm_int)))) (pms_cons (pm_set (i := 13) sc.nd rfl (by first | exact Or.inl rfl | exact Or.inr rfl) (pm_call G1 h1 g1 k1 b1 (fun σ => passAt (takes_of rfl rfl rfl rfl) σ) (pma_cons (pm_lc (own := [("person", 14)]) (G := gName 14) rfl sc.nd (pmi_items rfl (pm_var 5)) (blkOk_by (N := ["house", "hour", "state", "step", "number", "group", "one", "other", "wide", "opens", "shuts", "late", "here", "away", "person"]) (sc := defScope st_bar_of) (by decide +kernel)) (tgLc_name (by decide)) (fun _ _ _ _ _ => pg_name (i := 14) sc.nd rfl (by first | exact Or.inl rfl | exact Or.inr rfl)) (fun _ _ _ _ _ => pmts_one (pmt_bool (pmt_or (pmt_cmp (om_ne rfl hr.units) (pm_ix rfl (pm_var 2) (pm_var 14)) (pm_var 12) (nomark _)) (pmt_or1 (pmt_cmp (om_notin rfl) (pm_var 12) (pm_tup (pma_cons (pm_var 6) (pma_cons (pm_var 7) (pma_nil)))) (by with_unfolding_all rfl)))))) (fun _ _ _ _ _ => pm_var 14)) (pma_nil)))) (pms_cons (pms_if (pmt_cmp om_isnot (pm_var 13) (pm_non) (nomark _)) (pms_one (pm_ret (pm_tup (pma_cons (pm_str) (pma_cons (pm_var 13) (pma_nil)))))) (pms_nil)) (pms_cons (pms_if (pmt_cmp om_gt (pm_callB (cm_len rfl) T.n_len bt_len (pma_cons (pm_var 5) (pma_nil))) (pm_var 8) (nomark _)) (pms_one (pm_ret (pm_tup (pma_cons (pm_str) (pma_cons (pm_var 4) (pma_nil)))))) (pms_nil)) (pms_one (pm_ret (pm_call G2 h2 g2 k2 b2 (fun σ => passAt (takes_of rfl rfl rfl rfl) σ) (pma_cons (pm_var 0) (pma_cons (pm_var 2) (pma_cons (pm_var 5) (pma_cons (pm_var 12) (pma_cons (pm_op (om_sub) (pm_op (om_add rfl) (pm_var 6) (pm_var 7)) (pm_var 12)) (pma_nil)))))))))))))))))))
theorem sc_steps_at : FnScope ["house", "hour", "state", "found", "groups", "door", "group"] ["house", "hour", "state"] (defScope st_steps_at) := ⟨rfl, rfl, rfl, by decide +kernel, rfl, by decide +kernel, by decide +kernel⟩
theorem ok_steps_at (T : Tx K mg cls) (c1 : Cal P w K mg base cls "groups_of" 1 ["many"] m_groups_of) (c2 : Cal P w K mg base cls "bar_of" 6 ["house", "hour", "state", "step"] m_bar_of_01) : Cal P w K mg base cls "steps_at" 7 ["house", "hour", "state"] m_steps_at_02 := by
  obtain ⟨f1, fd1, g1, k1, b1, G1⟩ := c1.ex
  obtain ⟨f2, fd2, g2, k2, b2, G2⟩ := c2.ex
  obtain ⟨f, fd, g, k, F, b⟩ := T.d_steps_at.ex
  refine ⟨f, fd, g, k, b, okM F sc_steps_at rfl rfl (by decide) fun cdv A outer s H E hr => ?_⟩
  have sc := sc_steps_at
  have h1 := hr.mono (show 1 ≤ 6 by decide)
  have h2 := hr.mono (show 6 ≤ 6 by decide)
  exact pms_cons (pm_set (i := 3) sc.nd rfl (by first | exact Or.inl rfl | exact Or.inr rfl) (pm_lstC (pma_cons (pm_gwait rfl T.g_WAIT) (pma_nil)))) (pms_cons (pm_set (i := 4) sc.nd rfl (by first | exact Or.inl rfl | exact Or.inr rfl) (pm_call G1 h1 g1 k1 b1 (fun σ => passAt (takes_of rfl rfl rfl rfl) σ) (pma_cons (pm_callB (cm_len rfl) T.n_len bt_len (pma_cons (pm_var 2) (pma_nil))) (pma_nil)))) (pms_cons (pms_for (passes_of rfl) rfl (pmi_rng1 T.n_range (pma_cons (pm_callB (cm_len rfl) T.n_len bt_len (pma_cons (pm_fld 0 2 rfl (T.c0.ok (by decide)) rfl (pm_var 0)) (pma_nil))) (pma_nil))) (pmg_name (i := 5) sc.nd rfl (by first | exact Or.inl rfl | exact Or.inr rfl)) (pms_one (pms_for (passes_of rfl) rfl (pmi_items rfl (pm_var 4)) (pmg_name (i := 6) sc.nd rfl (by first | exact Or.inl rfl | exact Or.inr rfl)) (pms_one (pms_if (pmt_cmp om_is (pm_call G2 h2 g2 k2 b2 (fun σ => passAt (takes_of rfl rfl rfl rfl) σ) (pma_cons (pm_var 0) (pma_cons (pm_var 1) (pma_cons (pm_var 2) (pma_cons (pm_tup (pma_cons (pm_str) (pma_cons (pm_var 5) (pma_cons (pm_var 6) (pma_nil))))) (pma_nil)))))) (pm_non) (nomark _)) (pms_one (pm_expr (pm_bm rfl ms_append PySem.F.plainAttrs_list PySem.F.slot_list_append PySem.F.type_list_append (pm_var 3) (pma_cons (pm_tup (pma_cons (pm_str) (pma_cons (pm_var 5) (pma_cons (pm_var 6) (pma_nil))))) (pma_nil))))) (pms_nil)))))) (pms_one (pm_ret (pm_var 3)))))
theorem sc_behind : FnScope ["house", "state", "step", "one", "other"] ["house", "state", "step"] (defScope st_behind) := ⟨rfl, rfl, rfl, by decide +kernel, rfl, by decide +kernel, by decide +kernel⟩
theorem ok_behind (T : Tx K mg cls) (c1 : Cal P w K mg base cls "moved" 1 ["state", "group", "zone"] m_moved) : Cal P w K mg base cls "behind" 2 ["house", "state", "step"] m_behind := by
  obtain ⟨f1, fd1, g1, k1, b1, G1⟩ := c1.ex
  obtain ⟨f, fd, g, k, F, b⟩ := T.d_behind.ex
  refine ⟨f, fd, g, k, b, okM F sc_behind rfl rfl (by decide) fun cdv A outer s H E hr => ?_⟩
  have sc := sc_behind
  have h1 := hr.mono (show 1 ≤ 1 by decide)
  exact pms_cons (pms_if (pmt_cmp (om_eq rfl hr.units) (pm_var 2) (pm_gwait rfl T.g_WAIT) (nomark _)) (pms_one (pm_ret (pm_var 1))) (pms_nil)) (pms_cons (pm_asg (pm_slice rfl (pm_ix rfl (pm_fld 0 2 rfl (T.c0.ok (by decide)) rfl (pm_var 0)) (pm_ix rfl (pm_var 2) (pm_int))) (pmo_none) (pmo_some (pm_int))) (pmg_tup rfl rfl (pmgs_cons (pmg_name (i := 3) sc.nd rfl (by first | exact Or.inl rfl | exact Or.inr rfl)) (pmgs_cons (pmg_name (i := 4) sc.nd rfl (by first | exact Or.inl rfl | exact Or.inr rfl)) (pmgs_nil))))) (pms_one (pm_ret (pm_call G1 h1 g1 k1 b1 (fun σ => passAt (takes_of rfl rfl rfl rfl) σ) (pma_cons (pm_var 1) (pma_cons (pm_ix rfl (pm_var 2) (pm_int)) (pma_cons (pm_op (om_sub) (pm_op (om_add rfl) (pm_var 3) (pm_var 4)) (pm_ix rfl (pm_var 1) (pm_ix rfl (pm_ix rfl (pm_var 2) (pm_int)) (pm_int)))) (pma_nil))))))))
theorem sc_goings : FnScope ["house", "step", "person"] ["house", "step"] (defScope st_goings) := ⟨rfl, rfl, rfl, by decide +kernel, rfl, by decide +kernel, by decide +kernel⟩
theorem ok_goings (T : Tx K mg cls)  : Cal P w K mg base cls "goings" 1 ["house", "step"] m_goings := by
  obtain ⟨f, fd, g, k, F, b⟩ := T.d_goings.ex
  refine ⟨f, fd, g, k, b, okM F sc_goings rfl rfl (by decide) fun cdv A outer s H E hr => ?_⟩
  have sc := sc_goings
  exact pms_cons (pms_if (pmt_cmp (om_eq rfl hr.units) (pm_var 1) (pm_gwait rfl T.g_WAIT) (nomark _)) (pms_one (pm_ret (pm_int))) (pms_nil)) (pms_one (pm_ret (pm_callB (cm_len rfl) T.n_len bt_len (pma_cons (pm_lc (own := [("person", 2)]) (G := gName 2) rfl sc.nd (pmi_items rfl (pm_ix rfl (pm_var 1) (pm_int))) (blkOk_by (N := ["house", "step", "person"]) (sc := defScope st_goings) (by decide +kernel)) (tgLc_name (by decide)) (fun _ _ _ _ _ => pg_name (i := 2) sc.nd rfl (by first | exact Or.inl rfl | exact Or.inr rfl)) (fun _ _ _ _ _ => pmts_one (pmt_cmp om_gt (pm_ix rfl (pm_ix rfl (pm_fld 0 3 rfl (T.c0.ok (by decide)) rfl (pm_var 0)) (pm_var 2)) (pm_gint T.g_MOST_houses)) (pm_int) (nomark _))) (fun _ _ _ _ _ => pm_var 2)) (pma_nil)))))
theorem sc_Search_go_on : FnScope ["self", "hour", "least", "by", "state", "step", "other", "many"] ["self", "hour"] (defScope st_Search_go_on) := ⟨rfl, rfl, rfl, by decide +kernel, rfl, by decide +kernel, by decide +kernel⟩
theorem ok_Search_go_on (T : Tx K mg cls) (c1 : Cal P w K mg base cls "steps_at" 7 ["house", "hour", "state"] m_steps_at_02) (c2 : Cal P w K mg base cls "behind" 2 ["house", "state", "step"] m_behind) (c3 : Cal P w K mg base cls "goings" 1 ["house", "step"] m_goings) : MCal P w K mg base cls 1 "go_on" 8 ["self", "hour"] m_Search_go_on := by
  obtain ⟨f1, fd1, g1, k1, b1, G1⟩ := c1.fz.pure.ex
  obtain ⟨f2, fd2, g2, k2, b2, G2⟩ := c2.pure.ex
  obtain ⟨f3, fd3, g3, k3, b3, G3⟩ := c3.pure.ex
  obtain ⟨f, fd, g, F, b⟩ := T.d_Search_go_on.ex
  refine ⟨f, fd, g, b, okM F sc_Search_go_on rfl rfl (by decide) fun cdv A outer s H E hr => ?_⟩
  have sc := sc_Search_go_on
  have h1 := hr.mono (show 7 ≤ 7 by decide)
  have h2 := hr.mono (show 2 ≤ 7 by decide)
  have h3 := hr.mono (show 1 ≤ 7 by decide)
  exact pms_cons (pm_set (i := 2) sc.nd rfl (by first | exact Or.inl rfl | exact Or.inr rfl) (pm_dicN)) (pms_cons (pm_set (i := 3) sc.nd rfl (by first | exact Or.inl rfl | exact Or.inr rfl) (pm_dicN)) (pms_cons (pms_for (passes_of rfl) rfl (pmi_items rfl (pm_callB (cm_sortD rfl) T.n_sorted bt_sorted (pma_cons (pm_ix rfl (pm_fld 1 2 rfl (T.c1.ok (by decide)) rfl (pm_var 0)) (pm_neg (pm_int))) (pma_nil)))) (pmg_name (i := 4) sc.nd rfl (by first | exact Or.inl rfl | exact Or.inr rfl)) (pms_one (pms_for (passes_of rfl) rfl (pmi_items rfl (pm_call G1 h1 g1 k1 b1 (fun σ => passAt (takes_of rfl rfl rfl rfl) σ) (pma_cons (pm_fld 1 0 rfl (T.c1.ok (by decide)) rfl (pm_var 0)) (pma_cons (pm_var 1) (pma_cons (pm_var 4) (pma_nil)))))) (pmg_name (i := 5) sc.nd rfl (by first | exact Or.inl rfl | exact Or.inr rfl)) (pms_cons (pm_set (i := 6) sc.nd rfl (by first | exact Or.inl rfl | exact Or.inr rfl) (pm_call G2 h2 g2 k2 b2 (fun σ => passAt (takes_of rfl rfl rfl rfl) σ) (pma_cons (pm_fld 1 0 rfl (T.c1.ok (by decide)) rfl (pm_var 0)) (pma_cons (pm_var 4) (pma_cons (pm_var 5) (pma_nil)))))) (pms_cons (pm_set (i := 7) sc.nd rfl (by first | exact Or.inl rfl | exact Or.inr rfl) (pm_op (om_add rfl) (pm_dget (hu1 hr) (pm_ix rfl (pm_fld 1 2 rfl (T.c1.ok (by decide)) rfl (pm_var 0)) (pm_neg (pm_int))) (pm_var 4) (fun _ _ => rfl)) (pm_call G3 h3 g3 k3 b3 (fun σ => passAt (takes_of rfl rfl rfl rfl) σ) (pma_cons (pm_fld 1 0 rfl (T.c1.ok (by decide)) rfl (pm_var 0)) (pma_cons (pm_var 5) (pma_nil)))))) (pms_one (pms_if (pmt_bool (pmt_or (pmt_pc (pc_dninM (hu1 hr) (pm_var 6) (pm_var 2)) (by with_unfolding_all rfl)) (pmt_or1 (pmt_cmp om_lt (pm_var 7) (pm_dget (hu1 hr) (pm_var 2) (pm_var 6) (fun _ _ => rfl)) (nomark _))))) (pms_cons (pm_dput (hu1 hr) (pm_var 2) (pm_var 6) (pm_var 7)) (pms_one (pm_dput (hu1 hr) (pm_var 3) (pm_var 6) (pm_tup (pma_cons (pm_var 4) (pma_cons (pm_var 5) (pma_nil))))))) (pms_nil)))))))) (pms_frzD 3 (pms_frzD 2 (pms_cons (pm_expr (pm_bm rfl ms_append PySem.F.plainAttrs_list PySem.F.slot_list_append PySem.F.type_list_append (pm_fld 1 2 rfl (T.c1.ok (by decide)) rfl (pm_var 0)) (pma_cons (pm_var 2) (pma_nil)))) (pms_one (pm_expr (pm_bm rfl ms_append PySem.F.plainAttrs_list PySem.F.slot_list_append PySem.F.type_list_append (pm_fld 1 3 rfl (T.c1.ok (by decide)) rfl (pm_var 0)) (pma_cons (pm_var 3) (pma_nil))))))))))
theorem sc_Search_init : FnScope ["self", "house", "hour", "state", "now"] ["self", "house", "hour", "state"] (defScope st_Search_init) := ⟨rfl, rfl, rfl, by decide +kernel, rfl, by decide +kernel, by decide +kernel⟩
theorem ok_Search_init (T : Tx K mg cls) (c1 : MCal P w K mg base cls 1 "go_on" 8 ["self", "hour"] m_Search_go_on) : ICal P w K mg base cls 1 9 ["self", "house", "hour", "state"] m_Search_init := by
  obtain ⟨f1, fd1, g1, b1, G1⟩ := c1.ex
  obtain ⟨f, fd, k, F, b⟩ := T.d_Search_init.ex
  refine ⟨f, fd, k, b, okM F sc_Search_init rfl rfl (by decide) fun cdv A outer s H E hr => ?_⟩
  have sc := sc_Search_init
  have h1 := hr.mono (show 8 ≤ 8 by decide)
  exact pms_cons (pm_stF 1 0 rfl (T.c1.ok (by decide)) rfl (pm_var 0) (pm_var 1)) (pms_cons (pm_stF 1 1 rfl (T.c1.ok (by decide)) rfl (pm_var 0) (pm_var 2)) (pms_cons (pm_stF 1 2 rfl (T.c1.ok (by decide)) rfl (pm_var 0) (pm_lstC (pma_cons (pm_dic1 (hu1 hr) (pm_var 3) (pm_int)) (pma_nil)))) (pms_cons (pm_stF 1 3 rfl (T.c1.ok (by decide)) rfl (pm_var 0) (pm_lstC (pma_cons (pm_dic1 (hu1 hr) (pm_var 3) (pm_non)) (pma_nil)))) (pms_one (pms_for (passes_of rfl) rfl (pmi_rng2 T.n_range (pma_cons (pm_var 2) (pma_cons (pm_fld 0 1 rfl (T.c0.ok (by decide)) rfl (pm_var 1)) (pma_nil)))) (pmg_name (i := 4) sc.nd rfl (by first | exact Or.inl rfl | exact Or.inr rfl)) (pms_one (pm_expr (pm_meth 1 rfl (T.c1.ok (by decide)) (by show ¬ (_ ∈ fldsT 1); decide +kernel) (fun _ _ _ _ z => z) (pm_var 0) g1 G1 h1 b1 (passes_call (takes_of rfl rfl rfl rfl) (fun _ _ _ _ z => z)) (pma_cons (pm_var 4) (pma_nil))))))))))
theorem sc_is_met : FnScope ["house", "state", "person"] ["house", "state"] (defScope st_is_met) := ⟨rfl, rfl, rfl, by decide +kernel, rfl, by decide +kernel, by decide +kernel⟩
theorem ok_is_met (T : Tx K mg cls)  : Cal P w K mg base cls "is_met" 1 ["house", "state"] m_is_met := by
  obtain ⟨f, fd, g, k, F, b⟩ := T.d_is_met.ex
  refine ⟨f, fd, g, k, b, okM F sc_is_met rfl rfl (by decide) fun cdv A outer s H E hr => ?_⟩
  have sc := sc_is_met
  exact pms_cons (pms_for (passes_of rfl) rfl (pmi_rng1 T.n_range (pma_cons (pm_callB (cm_len rfl) T.n_len bt_len (pma_cons (pm_var 1) (pma_nil))) (pma_nil))) (pmg_name (i := 2) sc.nd rfl (by first | exact Or.inl rfl | exact Or.inr rfl)) (pms_one (pms_if (pmt_cmp (om_notin rfl) (pm_ix rfl (pm_ix rfl (pm_fld 0 3 rfl (T.c0.ok (by decide)) rfl (pm_var 0)) (pm_var 2)) (pm_gint T.g_GOAL)) (pm_tup (pma_cons (pm_neg (pm_int)) (pma_cons (pm_ix rfl (pm_var 1) (pm_var 2)) (pma_nil)))) (by with_unfolding_all rfl)) (pms_one (pm_ret (pm_bl))) (pms_nil)))) (pms_one (pm_ret (pm_bl)))
theorem sc_Search_best : FnScope ["self", "found", "at", "state", "key"] ["self"] (defScope st_Search_best) := ⟨rfl, rfl, rfl, by decide +kernel, rfl, by decide +kernel, by decide +kernel⟩
theorem ok_Search_best (T : Tx K mg cls) (c1 : Cal P w K mg base cls "is_met" 1 ["house", "state"] m_is_met) : MCal P w K mg base cls 1 "best" 2 ["self"] m_Search_best := by
  obtain ⟨f1, fd1, g1, k1, b1, G1⟩ := c1.pure.ex
  obtain ⟨f, fd, g, F, b⟩ := T.d_Search_best.ex
  refine ⟨f, fd, g, b, okM F sc_Search_best rfl rfl (by decide) fun cdv A outer s H E hr => ?_⟩
  have sc := sc_Search_best
  have h1 := hr.mono (show 1 ≤ 1 by decide)
  exact pms_cons (pm_set (i := 1) sc.nd rfl (by first | exact Or.inl rfl | exact Or.inr rfl) (pm_non)) (pms_cons (pms_for (passes_of rfl) rfl (pmi_rng1 T.n_range (pma_cons (pm_callB (cm_len rfl) T.n_len bt_len (pma_cons (pm_fld 1 2 rfl (T.c1.ok (by decide)) rfl (pm_var 0)) (pma_nil))) (pma_nil))) (pmg_name (i := 2) sc.nd rfl (by first | exact Or.inl rfl | exact Or.inr rfl)) (pms_one (pms_for (passes_of rfl) rfl (pmi_items rfl (pm_callB (cm_sortD rfl) T.n_sorted bt_sorted (pma_cons (pm_ix rfl (pm_fld 1 2 rfl (T.c1.ok (by decide)) rfl (pm_var 0)) (pm_var 2)) (pma_nil)))) (pmg_name (i := 3) sc.nd rfl (by first | exact Or.inl rfl | exact Or.inr rfl)) (pms_cons (pm_set (i := 4) sc.nd rfl (by first | exact Or.inl rfl | exact Or.inr rfl) (pm_tup (pma_cons (pm_dget (hu1 hr) (pm_ix rfl (pm_fld 1 2 rfl (T.c1.ok (by decide)) rfl (pm_var 0)) (pm_var 2)) (pm_var 3) (fun _ _ => rfl)) (pma_cons (pm_var 2) (pma_cons (pm_var 3) (pma_nil)))))) (pms_one (pms_if (pmt_bool (pmt_and (pmt_val (pm_call G1 h1 g1 k1 b1 (fun σ => passAt (takes_of rfl rfl rfl rfl) σ) (pma_cons (pm_fld 1 0 rfl (T.c1.ok (by decide)) rfl (pm_var 0)) (pma_cons (pm_var 3) (pma_nil))))) (pmt_and1 (pmt_bool (pmt_or (pmt_cmp om_is (pm_var 1) (pm_non) (nomark _)) (pmt_or1 (pmt_cmp (om_lt3 rfl (hu80 hr)) (pm_var 4) (pm_var 1) (nomark _)))))))) (pms_one (pm_set (i := 1) sc.nd rfl (by first | exact Or.inl rfl | exact Or.inr rfl) (pm_var 4))) (pms_nil))))))) (pms_one (pm_ret (pm_var 1))))
theorem sc_begin : FnScope ["house", "person"] ["house"] (defScope st_begin) := ⟨rfl, rfl, rfl, by decide +kernel, rfl, by decide +kernel, by decide +kernel⟩
theorem ok_begin (T : Tx K mg cls)  : Cal P w K mg base cls "begin" 1 ["house"] m_begin := by
  obtain ⟨f, fd, g, k, F, b⟩ := T.d_begin.ex
  refine ⟨f, fd, g, k, b, okM F sc_begin rfl rfl (by decide) fun cdv A outer s H E hr => ?_⟩
  have sc := sc_begin
  exact pms_one (pm_ret (pm_callTy (cm_tuple rfl) T.n_tuple bt_tuple (pma_cons (pm_lc (own := [("person", 1)]) (G := gName 1) rfl sc.nd (pmi_items rfl (pm_fld 0 3 rfl (T.c0.ok (by decide)) rfl (pm_var 0))) (blkOk_by (N := ["house", "person"]) (sc := defScope st_begin) (by decide +kernel)) (tgLc_name (by decide)) (fun _ _ _ _ _ => pg_name (i := 1) sc.nd rfl (by first | exact Or.inl rfl | exact Or.inr rfl)) (fun _ _ _ _ _ => pmts_nil) (fun _ _ _ _ _ => pm_ix rfl (pm_var 1) (pm_gint T.g_BEGIN))) (pma_nil))))
theorem sc_Search_plan_to : FnScope ["self", "at", "state", "found", "step"] ["self", "at", "state"] (defScope st_Search_plan_to) := ⟨rfl, rfl, rfl, by decide +kernel, rfl, by decide +kernel, by decide +kernel⟩
theorem ok_Search_plan_to (T : Tx K mg cls)  : MCal P w K mg base cls 1 "plan_to" 1 ["self", "at", "state"] m_Search_plan_to := by
  obtain ⟨f, fd, g, F, b⟩ := T.d_Search_plan_to.ex
  refine ⟨f, fd, g, b, okM F sc_Search_plan_to rfl rfl (by decide) fun cdv A outer s H E hr => ?_⟩
  have sc := sc_Search_plan_to
  exact pms_cons (pm_set (i := 3) sc.nd rfl (by first | exact Or.inl rfl | exact Or.inr rfl) (pm_lstC (pma_nil))) (pms_cons (pms_while 100 (passes_of rfl) (pmt_cmp om_gt (pm_var 1) (pm_int) (nomark _)) (pms_cons (pm_asg (pm_dget (hu1 hr) (pm_ix rfl (pm_fld 1 3 rfl (T.c1.ok (by decide)) rfl (pm_var 0)) (pm_var 1)) (pm_var 2) (fun _ _ => rfl)) (pmg_tup rfl rfl (pmgs_cons (pmg_name (i := 2) sc.nd rfl (by first | exact Or.inl rfl | exact Or.inr rfl)) (pmgs_cons (pmg_name (i := 4) sc.nd rfl (by first | exact Or.inl rfl | exact Or.inr rfl)) (pmgs_nil))))) (pms_cons (pm_expr (pm_bm rfl ms_append PySem.F.plainAttrs_list PySem.F.slot_list_append PySem.F.type_list_append (pm_var 3) (pma_cons (pm_var 4) (pma_nil)))) (pms_one (pm_set (i := 1) sc.nd rfl (by first | exact Or.inl rfl | exact Or.inr rfl) (pm_op (om_sub) (pm_var 1) (pm_int))))))) (pms_frz 3 (pms_one (pm_ret (pm_revL rfl T.n_list T.n_reversed (pm_var 3))))))
theorem sc_Search_table : FnScope ["self", "row", "state"] ["self"] (defScope st_Search_table) := ⟨rfl, rfl, rfl, by decide +kernel, rfl, by decide +kernel, by decide +kernel⟩
theorem ok_Search_table (T : Tx K mg cls)  : MCal P w K mg base cls 1 "table" 1 ["self"] m_Search_table := by
  obtain ⟨f, fd, g, F, b⟩ := T.d_Search_table.ex
  refine ⟨f, fd, g, b, okM F sc_Search_table rfl rfl (by decide) fun cdv A outer s H E hr => ?_⟩
  have sc := sc_Search_table
  exact pms_one (pm_ret (pm_lc (own := [("row", 1)]) (G := gName 1) rfl sc.nd (pmi_items rfl (pm_fld 1 2 rfl (T.c1.ok (by decide)) rfl (pm_var 0))) (blkOk_by (N := ["self", "row", "state"]) (sc := defScope st_Search_table) (by decide +kernel)) (tgLc_name (by decide)) (fun _ _ _ _ _ => pg_name (i := 1) sc.nd rfl (by first | exact Or.inl rfl | exact Or.inr rfl)) (fun _ _ _ _ _ => pmts_nil) (fun _ _ _ _ _ => pm_lc (own := [("state", 2)]) (G := gName 2) rfl sc.nd (pmi_items rfl (pm_callB (cm_sortD rfl) T.n_sorted bt_sorted (pma_cons (pm_var 1) (pma_nil)))) (blkOk_by (N := ["self", "row", "state"]) (by first | rfl | with_unfolding_all rfl | kernel_rfl)) (tgLc_name (by decide)) (fun _ _ _ _ _ => pg_name (i := 2) sc.nd rfl (by first | exact Or.inl rfl | exact Or.inr rfl)) (fun _ _ _ _ _ => pmts_nil) (fun _ _ _ _ _ => pm_tup (pma_cons (pm_var 2) (pma_cons (pm_dget (hu1 hr) (pm_var 1) (pm_var 2) (fun _ _ => rfl)) (pma_nil)))))))
theorem sc_fewest : FnScope ["house", "search", "best"] ["house"] (defScope st_fewest) := ⟨rfl, rfl, rfl, by decide +kernel, rfl, by decide +kernel, by decide +kernel⟩
theorem ok_fewest (T : Tx K mg cls) (c1 : ICal P w K mg base cls 1 9 ["self", "house", "hour", "state"] m_Search_init) (c2 : Cal P w K mg base cls "begin" 1 ["house"] m_begin) (c3 : MCal P w K mg base cls 1 "best" 2 ["self"] m_Search_best) (c4 : MCal P w K mg base cls 1 "table" 1 ["self"] m_Search_table) (c5 : MCal P w K mg base cls 1 "plan_to" 1 ["self", "at", "state"] m_Search_plan_to) : Cal P w K mg base cls "fewest" 11 ["house"] m_fewest := by
  obtain ⟨f1, fd1, k1, b1, G1⟩ := c1.ex
  obtain ⟨f2, fd2, g2, k2, b2, G2⟩ := c2.pure.ex
  obtain ⟨f3, fd3, g3, b3, G3⟩ := c3.pure.ex
  obtain ⟨f4, fd4, g4, b4, G4⟩ := c4.pure.ex
  obtain ⟨f5, fd5, g5, b5, G5⟩ := c5.pure.ex
  obtain ⟨f, fd, g, k, F, b⟩ := T.d_fewest.ex
  refine ⟨f, fd, g, k, b, okM F sc_fewest rfl rfl (by decide) fun cdv A outer s H E hr => ?_⟩
  have sc := sc_fewest
  have h1 := hr.mono (show 10 ≤ 10 by decide)
  have h2 := hr.mono (show 1 ≤ 10 by decide)
  have h3 := hr.mono (show 2 ≤ 10 by decide)
  have h4 := hr.mono (show 1 ≤ 10 by decide)
  have h5 := hr.mono (show 1 ≤ 10 by decide)
  exact pms_cons (pm_set (i := 1) sc.nd rfl (by first | exact Or.inl rfl | exact Or.inr rfl) (pm_frzO (pm_make 1 (E := _) (fun _ _ _ _ z => z) k1 G1 h1 T.k_Search b1 (passes_call (takes_of rfl rfl rfl rfl) (fun _ _ _ _ z => z)) (pma_cons (pm_var 0) (pma_cons (pm_int) (pma_cons (pm_call G2 h2 g2 k2 b2 (fun σ => passAt (takes_of rfl rfl rfl rfl) σ) (pma_cons (pm_var 0) (pma_nil))) (pma_nil))))))) (pms_cons (pm_set (i := 2) sc.nd rfl (by first | exact Or.inl rfl | exact Or.inr rfl) (pm_meth0 1 rfl (T.c1.ok (by decide)) (by show ¬ (_ ∈ fldsT 1); decide +kernel) (fun _ _ _ _ z => z) (pm_var 1) g3 G3 h3 b3 (passes_call (takes_of rfl rfl rfl rfl) (fun _ _ _ _ z => z)))) (pms_cons (pms_if (pmt_cmp om_is (pm_var 2) (pm_non) (nomark _)) (pms_one (pm_ret (pm_tup (pma_cons (pm_str) (pma_cons (pm_meth0 1 rfl (T.c1.ok (by decide)) (by show ¬ (_ ∈ fldsT 1); decide +kernel) (fun _ _ _ _ z => z) (pm_var 1) g4 G4 h4 b4 (passes_call (takes_of rfl rfl rfl rfl) (fun _ _ _ _ z => z))) (pma_nil)))))) (pms_nil)) (pms_one (pm_ret (pm_tup (pma_cons (pm_str) (pma_cons (pm_meth 1 rfl (T.c1.ok (by decide)) (by show ¬ (_ ∈ fldsT 1); decide +kernel) (fun _ _ _ _ z => z) (pm_var 1) g5 G5 h5 b5 (passes_call (takes_of rfl rfl rfl rfl) (fun _ _ _ _ z => z)) (pma_cons (pm_ix rfl (pm_var 2) (pm_int)) (pma_cons (pm_ix rfl (pm_var 2) (pm_int)) (pma_nil)))) (pma_cons (pm_ix rfl (pm_var 2) (pm_int)) (pma_cons (pm_meth0 1 rfl (T.c1.ok (by decide)) (by show ¬ (_ ∈ fldsT 1); decide +kernel) (fun _ _ _ _ z => z) (pm_var 1) g4 G4 h4 b4 (passes_call (takes_of rfl rfl rfl rfl) (fun _ _ _ _ z => z))) (pma_nil))))))))))
theorem sc_BadHouse_init : FnScope ["self", "word", "number"] ["self", "word", "number"] (defScope st_BadHouse_init) := ⟨rfl, rfl, rfl, by decide +kernel, rfl, by decide +kernel, by decide +kernel⟩
theorem ok_BadHouse_init (T : Tx K mg cls) : EICal P w K mg base cls 2 2 1 ["self", "word", "number"] := by
  obtain ⟨f, fd, o, i, t, F, b⟩ := T.d_BadHouse_init.ex
  have sc := sc_BadHouse_init
  refine ⟨f, fd, o, i, t, b, F.okX sc (fun vs H Q E h => by obtain ⟨a, ws, rfl, hw, _⟩ := h; simp [hw]) fun cdv A outer s H vs Q E hr h => ⟨_, ?_, ei_read (g := gam P w K cls) (c := 2) (n := 2) (f1 := "word") (l := [("number", 2)]) o rfl (by decide) ?_ ?_ ?_ h⟩⟩
  · exact pss_cons (ps_expr (pe_beinit rfl T.k_BookError T.bi.rd T.bi.fi (pa_cons (pv 0) (pa_cons (pv 1) pa_nil)))) (pss_cons (ps_ost (pv 0) (pv 1)) (pss_cons (ps_ost (pv 0) (pv 2)) (pss_nil)))
  · intro j p e
    rcases j with _ | _ | j
    · cases (Option.some.inj e); rfl
    · cases (Option.some.inj e); rfl
    · simp at e
  · intro p hp
    simp only [List.mem_cons, List.not_mem_nil, or_false] at hp
    rcases hp with rfl | rfl
    · exact T.d_BadHouse_init.na _ (by decide +kernel)
    · exact T.d_BadHouse_init.na _ (by decide +kernel)
  · exact fun ws h => match ws, h with | [_, _], _ => rfl
theorem sc_must : FnScope ["good", "word", "number"] ["good", "word", "number"] (defScope st_must) := ⟨rfl, rfl, rfl, by decide +kernel, rfl, by decide +kernel, by decide +kernel⟩
theorem ok_must (T : Tx K mg cls) (c1 : EICal P w K mg base cls 2 2 1 ["self", "word", "number"]) : Cal P w K mg base cls "must" 3 ["good", "word", "number"] m_must := by
  obtain ⟨f1, fd1, o1, i1, t1, b1, G1⟩ := c1.ex
  obtain ⟨f, fd, g, k, F, b⟩ := T.d_must.ex
  refine ⟨f, fd, g, k, b, okM F sc_must rfl rfl (by decide) fun cdv A outer s H E hr => ?_⟩
  have sc := sc_must
  have h1 := hr.mono (show 2 ≤ 2 by decide)
  exact pms_one (pms_if (pmt_not (pmt_val (pm_var 0))) (pms_one (pm_raise 2 2 (by decide) rfl (takes_of rfl rfl rfl rfl) o1 i1 t1 G1 h1 b1 (passes_call (E := fun _ _ _ => False) (takes_of rfl rfl rfl rfl) (fun _ _ _ _ z => z.elim)) T.k_BadHouse (pma_cons (pm_var 1) (pma_cons (pm_var 2) (pma_nil))))) (pms_nil))
theorem sc_House_is_door : FnScope ["self", "door", "one", "other", "wide", "opens", "shuts"] ["self", "door"] (defScope st_House_is_door) := ⟨rfl, rfl, rfl, by decide +kernel, rfl, by decide +kernel, by decide +kernel⟩
theorem ok_House_is_door (T : Tx K mg cls)  : MCal P w K mg base cls 0 "is_door" 1 ["self", "door"] m_House_is_door := by
  obtain ⟨f, fd, g, F, b⟩ := T.d_House_is_door.ex
  refine ⟨f, fd, g, b, okM F sc_House_is_door rfl rfl (by decide) fun cdv A outer s H E hr => ?_⟩
  have sc := sc_House_is_door
  exact pms_cons (pm_asg (pm_var 1) (pmg_tup rfl rfl (pmgs_cons (pmg_name (i := 2) sc.nd rfl (by first | exact Or.inl rfl | exact Or.inr rfl)) (pmgs_cons (pmg_name (i := 3) sc.nd rfl (by first | exact Or.inl rfl | exact Or.inr rfl)) (pmgs_cons (pmg_name (i := 4) sc.nd rfl (by first | exact Or.inl rfl | exact Or.inr rfl)) (pmgs_cons (pmg_name (i := 5) sc.nd rfl (by first | exact Or.inl rfl | exact Or.inr rfl)) (pmgs_cons (pmg_name (i := 6) sc.nd rfl (by first | exact Or.inl rfl | exact Or.inr rfl)) (pmgs_nil)))))))) (pms_one (pm_ret (pm_and (pm_chain3 om_le om_lt om_lt (pm_int) (pm_var 2) (pm_var 3) (pm_fld 0 0 rfl (T.c0.ok (by decide)) rfl (pm_var 0))) (pm_and (pm_chain om_le om_le (pm_int) (pm_var 4) (pm_gint T.g_MOST_WIDE)) (pm_one (pm_chain3 om_le om_lt om_le (pm_int) (pm_var 5) (pm_var 6) (pm_gint T.g_MOST_HOURS)))))))
theorem sc_is_name : FnScope ["text", "sign"] ["text"] (defScope st_is_name) := ⟨rfl, rfl, rfl, by decide +kernel, rfl, by decide +kernel, by decide +kernel⟩
theorem ok_is_name (T : Tx K mg cls)  : Cal P w K mg base cls "is_name" 1 ["text"] m_is_name := by
  obtain ⟨f, fd, g, k, F, b⟩ := T.d_is_name.ex
  refine ⟨f, fd, g, k, b, okM F sc_is_name rfl rfl (by decide) fun cdv A outer s H E hr => ?_⟩
  have sc := sc_is_name
  exact pms_one (pm_ret (pm_and (pm_chain om_le om_le (pm_int) (pm_callB (cm_len rfl) T.n_len bt_len (pma_cons (pm_var 0) (pma_nil))) (pm_gint T.g_LONGEST_NAME)) (pm_one (pm_cmp (om_eq rfl hr.units) (pm_lc (own := [("sign", 1)]) (G := gName 1) rfl sc.nd (pmi_items rfl (pm_var 0)) (blkOk_by (N := ["text", "sign"]) (sc := defScope st_is_name) (by decide +kernel)) (tgLc_name (by decide)) (fun _ _ _ _ _ => pg_name (i := 1) sc.nd rfl (by first | exact Or.inl rfl | exact Or.inr rfl)) (fun _ _ _ _ _ => pmts_one (pmt_cmp om_notinS (pm_var 1) (pm_gstr T.g_LETTERS) (by with_unfolding_all rfl))) (fun _ _ _ _ _ => pm_var 1)) (pm_lst (pma_nil)) (nomark _)))))
theorem sc_House_is_person : FnScope ["self", "number", "name", "begin", "goal", "most", "since", "free", "led", "zones", "person", "zone"] ["self", "number"] (defScope st_House_is_person) := ⟨rfl, rfl, rfl, by decide +kernel, rfl, by decide +kernel, by decide +kernel⟩
theorem ok_House_is_person (T : Tx K mg cls) (c1 : Cal P w K mg base cls "is_name" 1 ["text"] m_is_name) : MCal P w K mg base cls 0 "is_person" 2 ["self", "number"] m_House_is_person := by
  obtain ⟨f1, fd1, g1, k1, b1, G1⟩ := c1.ex
  obtain ⟨f, fd, g, F, b⟩ := T.d_House_is_person.ex
  refine ⟨f, fd, g, b, okM F sc_House_is_person rfl rfl (by decide) fun cdv A outer s H E hr => ?_⟩
  have sc := sc_House_is_person
  have h1 := hr.mono (show 1 ≤ 1 by decide)
  exact pms_cons (pm_asg (pm_ix rfl (pm_fld 0 3 rfl (T.c0.ok (by decide)) rfl (pm_var 0)) (pm_var 1)) (pmg_tup rfl rfl (pmgs_cons (pmg_name (i := 2) sc.nd rfl (by first | exact Or.inl rfl | exact Or.inr rfl)) (pmgs_cons (pmg_name (i := 3) sc.nd rfl (by first | exact Or.inl rfl | exact Or.inr rfl)) (pmgs_cons (pmg_name (i := 4) sc.nd rfl (by first | exact Or.inl rfl | exact Or.inr rfl)) (pmgs_cons (pmg_name (i := 5) sc.nd rfl (by first | exact Or.inl rfl | exact Or.inr rfl)) (pmgs_cons (pmg_name (i := 6) sc.nd rfl (by first | exact Or.inl rfl | exact Or.inr rfl)) (pmgs_cons (pmg_name (i := 7) sc.nd rfl (by first | exact Or.inl rfl | exact Or.inr rfl)) (pmgs_cons (pmg_name (i := 8) sc.nd rfl (by first | exact Or.inl rfl | exact Or.inr rfl)) (pmgs_nil)))))))))) (pms_cons (pms_if (pmt_bool (pmt_or (pmt_not (pmt_val (pm_call G1 h1 g1 k1 b1 (fun σ => passAt (takes_of rfl rfl rfl rfl) σ) (pma_cons (pm_var 2) (pma_nil))))) (pmt_or1 (pmt_cmp (om_in rfl) (pm_var 2) (pm_lc (own := [("person", 10)]) (G := gName 10) rfl sc.nd (pmi_items rfl (pm_slice rfl (pm_fld 0 3 rfl (T.c0.ok (by decide)) rfl (pm_var 0)) (pmo_none) (pmo_some (pm_var 1)))) (blkOk_by (N := ["self", "number", "name", "begin", "goal", "most", "since", "free", "led", "zones", "person", "zone"]) (sc := defScope st_House_is_person) (by decide +kernel)) (tgLc_name (by decide)) (fun _ _ _ _ _ => pg_name (i := 10) sc.nd rfl (by first | exact Or.inl rfl | exact Or.inr rfl)) (fun _ _ _ _ _ => pmts_nil) (fun _ _ _ _ _ => pm_ix rfl (pm_var 10) (pm_gint T.g_NAME))) (by with_unfolding_all rfl))))) (pms_one (pm_ret (pm_bl))) (pms_nil)) (pms_cons (pms_if (pmt_bool (pmt_or (pmt_not (pmt_chain om_le om_lt (pm_int) (pm_var 3) (pm_fld 0 0 rfl (T.c0.ok (by decide)) rfl (pm_var 0)))) (pmt_or1 (pmt_not (pmt_chain om_le om_lt (pm_neg (pm_int)) (pm_var 4) (pm_fld 0 0 rfl (T.c0.ok (by decide)) rfl (pm_var 0))))))) (pms_one (pm_ret (pm_bl))) (pms_nil)) (pms_cons (pms_if (pmt_bool (pmt_or (pmt_not (pmt_chain om_le om_le (pm_int) (pm_var 5) (pm_gint T.g_MOST_PEOPLE))) (pmt_or1 (pmt_not (pmt_chain om_le om_le (pm_int) (pm_var 6) (pm_gint T.g_MOST_HOURS)))))) (pms_one (pm_ret (pm_bl))) (pms_nil)) (pms_cons (pm_set (i := 9) sc.nd rfl (by first | exact Or.inl rfl | exact Or.inr rfl) (pm_op (om_add rfl) (pm_var 7) (pm_var 8))) (pms_cons (pms_if (pmt_bool (pmt_or (pmt_cmp (om_ne rfl hr.units) (pm_lc (own := [("zone", 11)]) (G := gName 11) rfl sc.nd (pmi_items rfl (pm_var 9)) (blkOk_by (N := ["self", "number", "name", "begin", "goal", "most", "since", "free", "led", "zones", "person", "zone"]) (sc := defScope st_House_is_person) (by decide +kernel)) (tgLc_name (by decide)) (fun _ _ _ _ _ => pg_name (i := 11) sc.nd rfl (by first | exact Or.inl rfl | exact Or.inr rfl)) (fun _ _ _ _ _ => pmts_one (pmt_not (pmt_chain om_le om_lt (pm_int) (pm_var 11) (pm_fld 0 0 rfl (T.c0.ok (by decide)) rfl (pm_var 0))))) (fun _ _ _ _ _ => pm_var 11)) (pm_lst (pma_nil)) (nomark _)) (pmt_or1 (pmt_cmp (om_ne rfl hr.units) (pm_callB (cm_lenSet rfl) T.n_len bt_len (pma_cons (pm_callTy (cm_set rfl rfl rfl) T.n_set bt_set (pma_cons (pm_var 9) (pma_nil))) (pma_nil))) (pm_callB (cm_len rfl) T.n_len bt_len (pma_cons (pm_var 9) (pma_nil))) (nomark _))))) (pms_one (pm_ret (pm_bl))) (pms_nil)) (pms_one (pm_ret (pm_and (pm_cmp (om_eq rfl hr.units) (pm_var 7) (pm_callTy (cm_tuple rfl) T.n_tuple bt_tuple (pma_cons (pm_callB (cm_sortTup rfl) T.n_sorted bt_sorted (pma_cons (pm_var 7) (pma_nil))) (pma_nil))) (nomark _)) (pm_one (pm_cmp (om_eq rfl hr.units) (pm_var 8) (pm_callTy (cm_tuple rfl) T.n_tuple bt_tuple (pma_cons (pm_callB (cm_sortTup rfl) T.n_sorted bt_sorted (pma_cons (pm_var 8) (pma_nil))) (pma_nil))) (nomark _)))))))))))
theorem sc_House_init : FnScope ["self", "zones", "hours", "doors", "people", "number", "left", "person"] ["self", "zones", "hours", "doors", "people"] (defScope st_House_init) := ⟨rfl, rfl, rfl, by decide +kernel, rfl, by decide +kernel, by decide +kernel⟩
theorem ok_House_init (T : Tx K mg cls) (c1 : Cal P w K mg base cls "must" 3 ["good", "word", "number"] m_must) (c2 : MCal P w K mg base cls 0 "is_door" 1 ["self", "door"] m_House_is_door) (c3 : MCal P w K mg base cls 0 "is_person" 2 ["self", "number"] m_House_is_person) (c4 : Cal P w K mg base cls "left_one" 4 ["house", "state"] m_left_one_01) : ICal P w K mg base cls 0 5 ["self", "zones", "hours", "doors", "people"] m_House_init_01 := by
  obtain ⟨f1, fd1, g1, k1, b1, G1⟩ := c1.ex
  obtain ⟨f2, fd2, g2, b2, G2⟩ := c2.ex
  obtain ⟨f3, fd3, g3, b3, G3⟩ := c3.ex
  obtain ⟨f4, fd4, g4, k4, b4, G4⟩ := c4.ex
  obtain ⟨f, fd, k, F, b⟩ := T.d_House_init.ex
  refine ⟨f, fd, k, b, okM F sc_House_init rfl rfl (by decide) fun cdv A outer s H E hr => ?_⟩
  have sc := sc_House_init
  have h1 := hr.mono (show 3 ≤ 4 by decide)
  have h2 := hr.mono (show 1 ≤ 4 by decide)
  have h3 := hr.mono (show 2 ≤ 4 by decide)
  have h4 := hr.mono (show 4 ≤ 4 by decide)
  exact pms_cons (pm_expr (pm_call G1 h1 g1 k1 b1 (fun σ => passAt (takes_of rfl rfl rfl rfl) σ) (pma_cons (pm_and (pm_chain om_le om_le (pm_int) (pm_var 1) (pm_gint T.g_MOST_ZONES)) (pm_one (pm_chain om_le om_le (pm_int) (pm_var 2) (pm_gint T.g_MOST_HOURS)))) (pma_cons (pm_str) (pma_cons (pm_int) (pma_nil)))))) (pms_cons (pm_expr (pm_call G1 h1 g1 k1 b1 (fun σ => passAt (takes_of rfl rfl rfl rfl) σ) (pma_cons (pm_cmp om_le (pm_callB (cm_len rfl) T.n_len bt_len (pma_cons (pm_var 3) (pma_nil))) (pm_gint T.g_MOST_DOORS) (nomark _)) (pma_cons (pm_str) (pma_cons (pm_int) (pma_nil)))))) (pms_cons (pm_expr (pm_call G1 h1 g1 k1 b1 (fun σ => passAt (takes_of rfl rfl rfl rfl) σ) (pma_cons (pm_chain om_le om_le (pm_int) (pm_callB (cm_len rfl) T.n_len bt_len (pma_cons (pm_var 4) (pma_nil))) (pm_gint T.g_MOST_PEOPLE)) (pma_cons (pm_str) (pma_cons (pm_int) (pma_nil)))))) (pms_cons (pm_stF 0 0 rfl (T.c0.ok (by decide)) rfl (pm_var 0) (pm_var 1)) (pms_cons (pm_stF 0 1 rfl (T.c0.ok (by decide)) rfl (pm_var 0) (pm_var 2)) (pms_cons (pm_stF 0 2 rfl (T.c0.ok (by decide)) rfl (pm_var 0) (pm_callTy (cm_list rfl) T.n_list bt_list (pma_cons (pm_var 3) (pma_nil)))) (pms_cons (pm_stF 0 3 rfl (T.c0.ok (by decide)) rfl (pm_var 0) (pm_callTy (cm_list rfl) T.n_list bt_list (pma_cons (pm_var 4) (pma_nil)))) (pms_cons (pms_for (passes_of rfl) rfl (pmi_rng1 T.n_range (pma_cons (pm_callB (cm_len rfl) T.n_len bt_len (pma_cons (pm_var 3) (pma_nil))) (pma_nil))) (pmg_name (i := 5) sc.nd rfl (by first | exact Or.inl rfl | exact Or.inr rfl)) (pms_one (pm_expr (pm_call G1 h1 g1 k1 b1 (fun σ => passAt (takes_of rfl rfl rfl rfl) σ) (pma_cons (pm_meth 0 rfl (T.c0.ok (by decide)) (by show ¬ (_ ∈ fldsT 0); decide +kernel) (fun _ _ _ _ z => z) (pm_var 0) g2 G2 h2 b2 (passes_call (takes_of rfl rfl rfl rfl) (fun _ _ _ _ z => z)) (pma_cons (pm_ix rfl (pm_var 3) (pm_var 5)) (pma_nil))) (pma_cons (pm_str) (pma_cons (pm_var 5) (pma_nil)))))))) (pms_cons (pms_for (passes_of rfl) rfl (pmi_rng1 T.n_range (pma_cons (pm_callB (cm_len rfl) T.n_len bt_len (pma_cons (pm_var 4) (pma_nil))) (pma_nil))) (pmg_name (i := 5) sc.nd rfl (by first | exact Or.inl rfl | exact Or.inr rfl)) (pms_one (pm_expr (pm_call G1 h1 g1 k1 b1 (fun σ => passAt (takes_of rfl rfl rfl rfl) σ) (pma_cons (pm_meth 0 rfl (T.c0.ok (by decide)) (by show ¬ (_ ∈ fldsT 0); decide +kernel) (fun _ _ _ _ z => z) (pm_var 0) g3 G3 h3 b3 (passes_call (takes_of rfl rfl rfl rfl) (fun _ _ _ _ z => z)) (pma_cons (pm_var 5) (pma_nil))) (pma_cons (pm_str) (pma_cons (pm_var 5) (pma_nil)))))))) (pms_cons (pm_set (i := 6) sc.nd rfl (by first | exact Or.inl rfl | exact Or.inr rfl) (pm_call G4 h4 g4 k4 b4 (fun σ => passAt (takes_of rfl rfl rfl rfl) σ) (pma_cons (pm_var 0) (pma_cons (pm_callTy (cm_tuple rfl) T.n_tuple bt_tuple (pma_cons (pm_lcK (own := [("person", 7)]) (G := gName 7) rfl rfl sc.nd (pm_var 4) (blkOk_by (N := ["self", "zones", "hours", "doors", "people", "number", "left", "person"]) (sc := defScope st_House_init) (by decide +kernel)) (tgLc_name (by decide)) (fun _ _ _ _ _ => pg_name (i := 7) sc.nd rfl (by first | exact Or.inl rfl | exact Or.inr rfl)) (fun _ _ _ _ _ => pmts_nil) (fun _ _ _ _ _ => pm_ix rfl (pm_var 7) (pm_gint T.g_BEGIN))) (pma_nil))) (pma_nil))))) (pms_one (pm_expr (pm_call G1 h1 g1 k1 b1 (fun σ => passAt (takes_of rfl rfl rfl rfl) σ) (pma_cons (pm_cmp om_is (pm_var 6) (pm_non) (nomark _)) (pma_cons (pm_str) (pma_cons (pm_if (pmt_cmp om_is (pm_var 6) (pm_non) (nomark _)) (pm_int) (pm_var 6)) (pma_nil))))))))))))))))
theorem sc_lw_made : FnScope ["_law_house_here"] ["_law_house_here"] (defScope st_lw_made) := ⟨rfl, rfl, rfl, by decide +kernel, rfl, by decide +kernel, by decide +kernel⟩
theorem ok_lw_made (T : Tx K mg cls) (c1 : ICal P w K mg base cls 0 5 ["self", "zones", "hours", "doors", "people"] m_House_init_01) : Cal P w K mg base cls "_law_made" 7 ["_law_house_here"] m_lw_made_01 := by
  obtain ⟨f1, fd1, k1, b1, G1⟩ := c1.ex
  obtain ⟨f, fd, g, k, F, b⟩ := T.d_lw_made.ex
  refine ⟨f, fd, g, k, b, okM F sc_lw_made rfl rfl (by decide) fun cdv A outer s H E hr => ?_⟩
  have sc := sc_lw_made
  have h1 := hr.mono (show 6 ≤ 6 by decide)
  exact pms_one (pm_ret (pm_frz (pm_make 0 (E := _) (fun _ _ _ _ z => z) k1 G1 h1 T.k_House b1 (passes_call (takes_of rfl rfl rfl rfl) (fun _ _ _ _ z => z)) (pma_cons (pm_ix rfl (pm_var 0) (pm_int)) (pma_cons (pm_ix rfl (pm_var 0) (pm_int)) (pma_cons (pm_callTy (cm_list rfl) T.n_list bt_list (pma_cons (pm_ix rfl (pm_var 0) (pm_int)) (pma_nil))) (pma_cons (pm_callTy (cm_list rfl) T.n_list bt_list (pma_cons (pm_ix rfl (pm_var 0) (pm_int)) (pma_nil))) (pma_nil))))))))
theorem sc_law : FnScope ["_law_script", "_law_row", "_law_house_here", "_law_left_here", "_law_order", "_law_doors", "_law_turn", "_law_other", "_law_one", "_law_two", "_law_turned", "_law_pairs", "_law_k", "_law_state", "_law_number"] ["_law_script"] (defScope st_law) := ⟨rfl, rfl, rfl, by decide +kernel, rfl, by decide +kernel, by decide +kernel⟩
theorem ok_law (T : Tx K mg cls) {f : Addr} {fd : FuncData} (F : Fun K "law" "law" st_law f fd) (c1 : Cal P w K mg base cls "_law_house" 3 ["_law_row"] m_lw_house) (c2 : Cal P w K mg base cls "_law_taken" 1 ["_law_row", "_law_many"] m_lw_taken) (c3 : Cal P w K mg base cls "fewest" 11 ["house"] m_fewest) (c4 : Cal P w K mg base cls "_law_made" 7 ["_law_house_here"] m_lw_made_01) : FnOk P w K mg base CX0 12 f fd ["_law_script"] (spM0 (gam P w K cls) m_law_12) := by
  obtain ⟨f1, fd1, g1, k1, b1, G1⟩ := c1.row.ex
  obtain ⟨f2, fd2, g2, k2, b2, G2⟩ := c2.ex
  obtain ⟨f3, fd3, g3, k3, b3, G3⟩ := c3.pure.ex
  obtain ⟨f4, fd4, g4, k4, b4, G4⟩ := c4.pure.ex
  refine okL F sc_law rfl rfl (by decide) fun cdv A outer s H E hr => ?_
  have sc := sc_law
  have h1 := hr.mono (show 3 ≤ 11 by decide)
  have h2 := hr.mono (show 1 ≤ 11 by decide)
  have h3 := hr.mono (show 11 ≤ 11 by decide)
  have h4 := hr.mono (show 7 ≤ 11 by decide)
  exact pms_cons (pm_set (i := 1) sc.nd rfl (by first | exact Or.inl rfl | exact Or.inr rfl) (pm_lstC (pma_cons (pm_var 0) (pma_cons (pm_int) (pma_cons (pm_int) (pma_nil)))))) (pms_cons (pm_set (i := 2) sc.nd rfl (by first | exact Or.inl rfl | exact Or.inr rfl) (pm_call G1 h1 g1 k1 b1 (fun σ => passAt takes0 σ) (pma_cons (pm_var 1) (pma_nil)))) (pms_cons (pm_set (i := 3) sc.nd rfl (by first | exact Or.inl rfl | exact Or.inr rfl) (pm_lstRg rfl T.n_list T.n_range (pm_callB (cm_len rfl) T.n_len bt_len (pma_cons (pm_ix rfl (pm_var 2) (pm_int)) (pma_nil))))) (pms_cons (pm_set (i := 4) sc.nd rfl (by first | exact Or.inl rfl | exact Or.inr rfl) (pm_lstC (pma_nil))) (pms_cons (pms_while 100 PassesOwn.never (pmt_cmp (om_ne rfl hr.units) (pm_var 3) (pm_lst (pma_nil)) (nomark _)) (pms_one (pm_expr (pm_bm rfl ms_append PySem.F.plainAttrs_list PySem.F.slot_list_append PySem.F.type_list_append (pm_var 4) (pma_cons (pm_bm rfl ms_pop PySem.F.plainAttrs_list PySem.F.slot_list_pop PySem.F.type_list_pop (pm_var 3) (pma_cons (pm_call G2 h2 g2 k2 b2 (fun σ => passAt takes0 σ) (pma_cons (pm_var 1) (pma_cons (pm_callB (cm_len rfl) T.n_len bt_len (pma_cons (pm_var 3) (pma_nil))) (pma_nil)))) (pma_nil))) (pma_nil)))))) (pms_frz 3 (pms_frz 4 (pms_cons (pm_set (i := 5) sc.nd rfl (by first | exact Or.inl rfl | exact Or.inr rfl) (pm_callTy (cm_listC rfl) T.n_list bt_list (pma_cons (pm_ix rfl (pm_var 2) (pm_int)) (pma_nil)))) (pms_cons (pm_set (i := 6) sc.nd rfl (by first | exact Or.inl rfl | exact Or.inr rfl) (pm_call G2 h2 g2 k2 b2 (fun σ => passAt takes0 σ) (pma_cons (pm_var 1) (pma_cons (pm_op (om_add rfl) (pm_callB (cm_len rfl) T.n_len bt_len (pma_cons (pm_var 5) (pma_nil))) (pm_int)) (pma_nil))))) (pms_cons (pm_set (i := 5) sc.nd rfl (by first | exact Or.inl rfl | exact Or.inr rfl) (pm_addC (pm_slice rfl (pm_var 5) (pmo_some (pm_var 6)) (pmo_none)) (pm_slice rfl (pm_var 5) (pmo_none) (pmo_some (pm_var 6))))) (pms_cons (pms_if (pmt_bool (pmt_and (pmt_cmp (om_ne rfl hr.units) (pm_var 5) (pm_lst (pma_nil)) (nomark _)) (pmt_and (pmt_cmp om_lt (pm_callB (cm_len rfl) T.n_len bt_len (pma_cons (pm_var 5) (pma_nil))) (pm_int) (nomark _)) (pmt_and1 (pmt_cmp (om_eq rfl hr.units) (pm_call G2 h2 g2 k2 b2 (fun σ => passAt takes0 σ) (pma_cons (pm_var 1) (pma_cons (pm_int) (pma_nil)))) (pm_int) (nomark _)))))) (pms_one (pm_expr (pm_bm rfl ms_append PySem.F.plainAttrs_list PySem.F.slot_list_append PySem.F.type_list_append (pm_var 5) (pma_cons (pm_ix rfl (pm_var 5) (pm_int)) (pma_nil))))) (pms_nil)) (pms_frz 5 (pms_cons (pm_set (i := 7) sc.nd rfl (by first | exact Or.inl rfl | exact Or.inr rfl) (pm_tup (pma_cons (pm_ix rfl (pm_var 2) (pm_int)) (pma_cons (pm_ix rfl (pm_var 2) (pm_int)) (pma_cons (pm_var 5) (pma_cons (pm_lc (own := [("_law_k", 12)]) (G := gName 12) rfl sc.nd (pmi_items rfl (pm_var 4)) (blkOk_by (N := ["_law_script", "_law_row", "_law_house_here", "_law_left_here", "_law_order", "_law_doors", "_law_turn", "_law_other", "_law_one", "_law_two", "_law_turned", "_law_pairs", "_law_k", "_law_state", "_law_number"]) (sc := defScope st_law) (by decide +kernel)) (tgLc_name (by decide)) (fun _ _ _ _ _ => pg_name (i := 12) sc.nd rfl (by first | exact Or.inl rfl | exact Or.inr rfl)) (fun _ _ _ _ _ => pmts_nil) (fun _ _ _ _ _ => pm_ix rfl (pm_ix rfl (pm_var 2) (pm_int)) (pm_var 12))) (pma_nil))))))) (pms_cons (pm_set (i := 8) sc.nd rfl (by first | exact Or.inl rfl | exact Or.inr rfl) (pm_call G3 h3 g3 k3 b3 (fun σ => passAt takes0 σ) (pma_cons (pm_call G4 h4 g4 k4 b4 (fun σ => passAt takes0 σ) (pma_cons (pm_var 2) (pma_nil))) (pma_nil)))) (pms_cons (pm_set (i := 9) sc.nd rfl (by first | exact Or.inl rfl | exact Or.inr rfl) (pm_call G3 h3 g3 k3 b3 (fun σ => passAt takes0 σ) (pma_cons (pm_call G4 h4 g4 k4 b4 (fun σ => passAt takes0 σ) (pma_cons (pm_var 7) (pma_nil))) (pma_nil)))) (pms_cons (pms_if (pmt_bool (pmt_or (pmt_cmp (om_ne rfl hr.units) (pm_ix rfl (pm_var 8) (pm_int)) (pm_ix rfl (pm_var 9) (pm_int)) (nomark _)) (pmt_or1 (pmt_bool (pmt_and (pmt_cmp (om_eq rfl hr.units) (pm_ix rfl (pm_var 8) (pm_int)) (pm_str) (nomark _)) (pmt_and1 (pmt_cmp (om_ne rfl hr.units) (pm_ix rfl (pm_var 8) (pm_int)) (pm_ix rfl (pm_var 9) (pm_int)) (nomark _)))))))) (pms_one (pm_ret (pm_bl))) (pms_nil)) (pms_cons (pm_set (i := 10) sc.nd rfl (by first | exact Or.inl rfl | exact Or.inr rfl) (pm_lstC (pma_nil))) (pms_cons (pms_for PassesOwn.never rfl (pmi_items rfl (pm_ix rfl (pm_var 8) (pm_neg (pm_int)))) (pmg_name (i := 11) sc.nd rfl (by first | exact Or.inl rfl | exact Or.inr rfl)) (pms_one (pm_expr (pm_bm rfl ms_append PySem.F.plainAttrs_list PySem.F.slot_list_append PySem.F.type_list_append (pm_var 10) (pma_cons (pm_callB (cm_sortP rfl (hu80 hr)) T.n_sorted bt_sorted (pma_cons (pm_lc (own := [("_law_state", 13), ("_law_number", 14)]) (G := gTup K 2 (gCons (gName 13) (gCons (gName 14) gNil))) rfl sc.nd (pmi_items rfl (pm_var 11)) (blkOk_by (N := ["_law_script", "_law_row", "_law_house_here", "_law_left_here", "_law_order", "_law_doors", "_law_turn", "_law_other", "_law_one", "_law_two", "_law_turned", "_law_pairs", "_law_k", "_law_state", "_law_number"]) (sc := defScope st_law) (by decide +kernel)) (tgLc_two rfl (by decide) (by decide)) (fun _ _ _ _ _ => pg_tup rfl (pgs_cons (pg_name (i := 13) sc.nd rfl (by first | exact Or.inl rfl | exact Or.inr rfl)) (pgs_cons (pg_name (i := 14) sc.nd rfl (by first | exact Or.inl rfl | exact Or.inr rfl)) pgs_nil))) (fun _ _ _ _ _ => pmts_nil) (fun _ _ _ _ _ => pm_tup (pma_cons (pm_callTy (cm_tuple rfl) T.n_tuple bt_tuple (pma_cons (pm_lc (own := [("_law_k", 12)]) (G := gName 12) rfl sc.nd (pmi_items rfl (pm_var 4)) (blkOk_by (N := ["_law_script", "_law_row", "_law_house_here", "_law_left_here", "_law_order", "_law_doors", "_law_turn", "_law_other", "_law_one", "_law_two", "_law_turned", "_law_pairs", "_law_k", "_law_state", "_law_number"]) (by first | rfl | with_unfolding_all rfl | kernel_rfl)) (tgLc_name (by decide)) (fun _ _ _ _ _ => pg_name (i := 12) sc.nd rfl (by first | exact Or.inl rfl | exact Or.inr rfl)) (fun _ _ _ _ _ => pmts_nil) (fun _ _ _ _ _ => pm_ix rfl (pm_var 13) (pm_var 12))) (pma_nil))) (pma_cons (pm_var 14) (pma_nil))))) (pma_nil))) (pma_nil)))))) (pms_frz 10 (pms_one (pm_ret (pm_cmp (om_eq rfl hr.units) (pm_var 10) (pm_ix rfl (pm_var 9) (pm_neg (pm_int))) (nomark _))))))))))))))))))))))
theorem ok_all (T : Tx K mg cls) {f : Addr} {fd : FuncData} (F : Fun K "law" "law" st_law f fd) : FnOk P w K mg base CX0 12 f fd ["_law_script"] (spM0 (gam P w K cls) m_law_12) := by
  have z_lw_taken : Cal P w K mg base cls "_law_taken" 1 ["_law_row", "_law_many"] m_lw_taken := ok_lw_taken T 
  have z_lw_names : Cal P w K mg base cls "_law_names" 2 ["_law_row"] m_lw_names := ok_lw_names T z_lw_taken
  have z_lw_person : Cal P w K mg base cls "_law_person" 2 ["_law_row", "_law_name", "_law_zones"] m_lw_person := ok_lw_person T z_lw_taken
  have z_lw_free : Cal P w K mg base cls "_law_free" 1 ["_law_house_here", "_law_person_here", "_law_zone"] m_lw_free := ok_lw_free T 
  have z_lw_left : Cal P w K mg base cls "_law_left" 2 ["_law_house_here", "_law_state"] m_lw_left := ok_lw_left T z_lw_free
  have z_lw_house : Cal P w K mg base cls "_law_house" 3 ["_law_row"] m_lw_house := ok_lw_house T z_lw_taken z_lw_names z_lw_person z_lw_left
  have z_groups_of : Cal P w K mg base cls "groups_of" 1 ["many"] m_groups_of := ok_groups_of T 
  have z_first_of : Cal P w K mg base cls "first_of" 1 ["persons"] m_first_of := ok_first_of T 
  have z_is_free : Cal P w K mg base cls "is_free" 1 ["house", "person", "zone"] m_is_free := ok_is_free T 
  have z_led_ones : Cal P w K mg base cls "led_ones" 2 ["house", "persons", "zones"] m_led_ones := ok_led_ones T z_is_free
  have z_may_be : Cal P w K mg base cls "may_be" 2 ["house", "person", "zone"] m_may_be := ok_may_be T z_is_free
  have z_can_lead : Cal P w K mg base cls "can_lead" 3 ["house", "persons", "zones"] m_can_lead_01 := ok_can_lead T z_led_ones
  have z_left_one : Cal P w K mg base cls "left_one" 4 ["house", "state"] m_left_one_01 := ok_left_one T z_may_be z_is_free z_led_ones z_can_lead
  have z_moved : Cal P w K mg base cls "moved" 1 ["state", "group", "zone"] m_moved := ok_moved T 
  have z_bar_of_going : Cal P w K mg base cls "bar_of_going" 5 ["house", "state", "group", "here", "there"] m_bar_of_going_01 := ok_bar_of_going T z_first_of z_may_be z_led_ones z_can_lead z_left_one z_moved
  have z_bar_of : Cal P w K mg base cls "bar_of" 6 ["house", "hour", "state", "step"] m_bar_of_01 := ok_bar_of T z_first_of z_bar_of_going
  have z_steps_at : Cal P w K mg base cls "steps_at" 7 ["house", "hour", "state"] m_steps_at_02 := ok_steps_at T z_groups_of z_bar_of
  have z_behind : Cal P w K mg base cls "behind" 2 ["house", "state", "step"] m_behind := ok_behind T z_moved
  have z_goings : Cal P w K mg base cls "goings" 1 ["house", "step"] m_goings := ok_goings T 
  have z_Search_go_on : MCal P w K mg base cls 1 "go_on" 8 ["self", "hour"] m_Search_go_on := ok_Search_go_on T z_steps_at z_behind z_goings
  have z_Search_init : ICal P w K mg base cls 1 9 ["self", "house", "hour", "state"] m_Search_init := ok_Search_init T z_Search_go_on
  have z_is_met : Cal P w K mg base cls "is_met" 1 ["house", "state"] m_is_met := ok_is_met T 
  have z_Search_best : MCal P w K mg base cls 1 "best" 2 ["self"] m_Search_best := ok_Search_best T z_is_met
  have z_begin : Cal P w K mg base cls "begin" 1 ["house"] m_begin := ok_begin T 
  have z_Search_plan_to : MCal P w K mg base cls 1 "plan_to" 1 ["self", "at", "state"] m_Search_plan_to := ok_Search_plan_to T 
  have z_Search_table : MCal P w K mg base cls 1 "table" 1 ["self"] m_Search_table := ok_Search_table T 
  have z_fewest : Cal P w K mg base cls "fewest" 11 ["house"] m_fewest := ok_fewest T z_Search_init z_begin z_Search_best z_Search_table z_Search_plan_to
  have z_BadHouse_init : EICal P w K mg base cls 2 2 1 ["self", "word", "number"] := ok_BadHouse_init T 
  have z_must : Cal P w K mg base cls "must" 3 ["good", "word", "number"] m_must := ok_must T z_BadHouse_init
  have z_House_is_door : MCal P w K mg base cls 0 "is_door" 1 ["self", "door"] m_House_is_door := ok_House_is_door T 
  have z_is_name : Cal P w K mg base cls "is_name" 1 ["text"] m_is_name := ok_is_name T 
  have z_House_is_person : MCal P w K mg base cls 0 "is_person" 2 ["self", "number"] m_House_is_person := ok_House_is_person T z_is_name
  have z_House_init : ICal P w K mg base cls 0 5 ["self", "zones", "hours", "doors", "people"] m_House_init_01 := ok_House_init T z_must z_House_is_door z_House_is_person z_left_one
  have z_lw_made : Cal P w K mg base cls "_law_made" 7 ["_law_house_here"] m_lw_made_01 := ok_lw_made T z_House_init
  exact ok_law T F z_lw_house z_lw_taken z_fewest z_lw_made
end
end Eb

namespace Eb
open PySem L2
theorem all_mk {l : PySem.W.OpenLaw} {w : World} {K : PySem.W.Frag} {h : Heap} {mg : Str → Option Value} {fa : Addr} {C0 C1 C2 C7 f0 f1 f2 f3 f4 f5 f6 f7 f8 f9 f10 f11 f12 f13 f14 f15 f16 f17 f18 f19 f20 f21 f22 f23 f24 f25 f26 f27 f28 f29 f30 f31 f32 f33 f34 : Addr} (X : K.In h) (G : h.Ns mainGlobals mg) (hfa : mg "law" = some (.ref fa))
    {od0 an0 : Option Addr} {sl0 : Array (Option Value)} {oc0 kV0 dc0 pm0 cd0 ct0 : Value}
    {od1 an1 : Option Addr} {sl1 : Array (Option Value)} {oc1 kV1 dc1 pm1 cd1 ct1 : Value}
    {od2 an2 : Option Addr} {sl2 : Array (Option Value)} {oc2 kV2 dc2 pm2 cd2 ct2 : Value}
    {od3 an3 : Option Addr} {sl3 : Array (Option Value)} {oc3 kV3 dc3 pm3 cd3 ct3 : Value}
    {od4 an4 : Option Addr} {sl4 : Array (Option Value)} {oc4 kV4 dc4 pm4 cd4 ct4 : Value}
    {od5 an5 : Option Addr} {sl5 : Array (Option Value)} {oc5 kV5 dc5 pm5 cd5 ct5 : Value}
    {od6 an6 : Option Addr} {sl6 : Array (Option Value)} {oc6 kV6 dc6 pm6 cd6 ct6 : Value}
    {od7 an7 : Option Addr} {sl7 : Array (Option Value)} {oc7 kV7 dc7 pm7 cd7 ct7 : Value}
    {od8 an8 : Option Addr} {sl8 : Array (Option Value)} {oc8 kV8 dc8 pm8 cd8 ct8 : Value}
    {od9 an9 : Option Addr} {sl9 : Array (Option Value)} {oc9 kV9 dc9 pm9 cd9 ct9 : Value}
    {od10 an10 : Option Addr} {sl10 : Array (Option Value)} {oc10 kV10 dc10 pm10 cd10 ct10 : Value}
    {od11 an11 : Option Addr} {sl11 : Array (Option Value)} {oc11 kV11 dc11 pm11 cd11 ct11 : Value}
    {od12 an12 : Option Addr} {sl12 : Array (Option Value)} {oc12 kV12 dc12 pm12 cd12 ct12 : Value}
    {od13 an13 : Option Addr} {sl13 : Array (Option Value)} {oc13 kV13 dc13 pm13 cd13 ct13 : Value}
    {od14 an14 : Option Addr} {sl14 : Array (Option Value)} {oc14 kV14 dc14 pm14 cd14 ct14 : Value}
    {od15 an15 : Option Addr} {sl15 : Array (Option Value)} {oc15 kV15 dc15 pm15 cd15 ct15 : Value}
    {od16 an16 : Option Addr} {sl16 : Array (Option Value)} {oc16 kV16 dc16 pm16 cd16 ct16 : Value}
    {od17 an17 : Option Addr} {sl17 : Array (Option Value)} {oc17 kV17 dc17 pm17 cd17 ct17 : Value}
    {od18 an18 : Option Addr} {sl18 : Array (Option Value)} {oc18 kV18 dc18 pm18 cd18 ct18 : Value}
    {od19 an19 : Option Addr} {sl19 : Array (Option Value)} {oc19 kV19 dc19 pm19 cd19 ct19 : Value}
    {od20 an20 : Option Addr} {sl20 : Array (Option Value)} {oc20 kV20 dc20 pm20 cd20 ct20 : Value}
    {od21 an21 : Option Addr} {sl21 : Array (Option Value)} {oc21 kV21 dc21 pm21 cd21 ct21 : Value}
    {od22 an22 : Option Addr} {sl22 : Array (Option Value)} {oc22 kV22 dc22 pm22 cd22 ct22 : Value}
    {od23 an23 : Option Addr} {sl23 : Array (Option Value)} {oc23 kV23 dc23 pm23 cd23 ct23 : Value}
    {od24 an24 : Option Addr} {sl24 : Array (Option Value)} {oc24 kV24 dc24 pm24 cd24 ct24 : Value}
    {od25 an25 : Option Addr} {sl25 : Array (Option Value)} {oc25 kV25 dc25 pm25 cd25 ct25 : Value}
    {od26 an26 : Option Addr} {sl26 : Array (Option Value)} {oc26 kV26 dc26 pm26 cd26 ct26 : Value}
    {od27 an27 : Option Addr} {sl27 : Array (Option Value)} {oc27 kV27 dc27 pm27 cd27 ct27 : Value}
    {od28 an28 : Option Addr} {sl28 : Array (Option Value)} {oc28 kV28 dc28 pm28 cd28 ct28 : Value}
    {od29 an29 : Option Addr} {sl29 : Array (Option Value)} {oc29 kV29 dc29 pm29 cd29 ct29 : Value}
    {od30 an30 : Option Addr} {sl30 : Array (Option Value)} {oc30 kV30 dc30 pm30 cd30 ct30 : Value}
    {od31 an31 : Option Addr} {sl31 : Array (Option Value)} {oc31 kV31 dc31 pm31 cd31 ct31 : Value}
    {od32 an32 : Option Addr} {sl32 : Array (Option Value)} {oc32 kV32 dc32 pm32 cd32 ct32 : Value}
    {od33 an33 : Option Addr} {sl33 : Array (Option Value)} {oc33 kV33 dc33 pm33 cd33 ct33 : Value}
    {od34 an34 : Option Addr} {sl34 : Array (Option Value)} {oc34 kV34 dc34 pm34 cd34 ct34 : Value}
    {nm2 q2 : Str} {N2 : Addr} {bs2 : List Value} {sn2 : List Str} {sub2 : List Value} {ab2 : Bool} {col2 : Option Bool} {dd2 : Option Addr} {m02 m12 m22 m32 m52 : Option Value}
    {tk_BEGIN : Tok}
    {tk_FREE : Tok}
    {tk_GOAL : Tok}
    {tk_LED : Tok}
    {tk_LETTERS : Tok}
    {tk_LONGEST_NAME : Tok}
    {tk_MOST_DOORS : Tok}
    {tk_MOST_HOURS : Tok}
    {tk_MOST_PEOPLE : Tok}
    {tk_MOST_WIDE : Tok}
    {tk_MOST_ZONES : Tok}
    {tk_MOST_houses : Tok}
    {tk_MOST_rules : Tok}
    {tk_NAME : Tok}
    {tk_SINCE : Tok}
    {aW : Addr} {dW : Option Addr} {nW : Nat} {slW : Array (Option Value)} {tkW : Tok}
    (aC0 : PySem.W.nsIn K mainGlobals "House" = some (some (.ref C0)))
    (aC1 : PySem.W.nsIn K mainGlobals "Search" = some (some (.ref C1)))
    (aC2 : PySem.W.nsIn K mainGlobals "BadHouse" = some (some (.ref C2)))
    (aC7 : PySem.W.nsIn K mainGlobals "BookError" = some (some (.ref C7)))
    (a0 : PySem.W.nsIn K mainGlobals "_law_taken" = some (some (.ref f0)))
    (l0 : K.lookup f0 = some ⟨oc0, od0, .func (PySem.W.fnOf "_law_taken" "_law_taken" (defArgs st_lw_taken) (defBody st_lw_taken) (defScope st_lw_taken) .none kV0 dc0 pm0 an0 cd0 ct0), sl0⟩)
    (c0 : PySem.W.codeIn K cd0 "_law_taken" = true)
    (k0 : PySem.W.keepIn K (.ref f0) = true)
    (a1 : PySem.W.nsIn K mainGlobals "_law_names" = some (some (.ref f1)))
    (l1 : K.lookup f1 = some ⟨oc1, od1, .func (PySem.W.fnOf "_law_names" "_law_names" (defArgs st_lw_names) (defBody st_lw_names) (defScope st_lw_names) .none kV1 dc1 pm1 an1 cd1 ct1), sl1⟩)
    (c1 : PySem.W.codeIn K cd1 "_law_names" = true)
    (k1 : PySem.W.keepIn K (.ref f1) = true)
    (a2 : PySem.W.nsIn K mainGlobals "_law_person" = some (some (.ref f2)))
    (l2 : K.lookup f2 = some ⟨oc2, od2, .func (PySem.W.fnOf "_law_person" "_law_person" (defArgs st_lw_person) (defBody st_lw_person) (defScope st_lw_person) .none kV2 dc2 pm2 an2 cd2 ct2), sl2⟩)
    (c2 : PySem.W.codeIn K cd2 "_law_person" = true)
    (k2 : PySem.W.keepIn K (.ref f2) = true)
    (a3 : PySem.W.nsIn K mainGlobals "_law_free" = some (some (.ref f3)))
    (l3 : K.lookup f3 = some ⟨oc3, od3, .func (PySem.W.fnOf "_law_free" "_law_free" (defArgs st_lw_free) (defBody st_lw_free) (defScope st_lw_free) .none kV3 dc3 pm3 an3 cd3 ct3), sl3⟩)
    (c3 : PySem.W.codeIn K cd3 "_law_free" = true)
    (k3 : PySem.W.keepIn K (.ref f3) = true)
    (a4 : PySem.W.nsIn K mainGlobals "_law_left" = some (some (.ref f4)))
    (l4 : K.lookup f4 = some ⟨oc4, od4, .func (PySem.W.fnOf "_law_left" "_law_left" (defArgs st_lw_left) (defBody st_lw_left) (defScope st_lw_left) .none kV4 dc4 pm4 an4 cd4 ct4), sl4⟩)
    (c4 : PySem.W.codeIn K cd4 "_law_left" = true)
    (k4 : PySem.W.keepIn K (.ref f4) = true)
    (a5 : PySem.W.nsIn K mainGlobals "_law_house" = some (some (.ref f5)))
    (l5 : K.lookup f5 = some ⟨oc5, od5, .func (PySem.W.fnOf "_law_house" "_law_house" (defArgs st_lw_house) (defBody st_lw_house) (defScope st_lw_house) .none kV5 dc5 pm5 an5 cd5 ct5), sl5⟩)
    (c5 : PySem.W.codeIn K cd5 "_law_house" = true)
    (k5 : PySem.W.keepIn K (.ref f5) = true)
    (a6 : PySem.W.nsIn K mainGlobals "groups_of" = some (some (.ref f6)))
    (l6 : K.lookup f6 = some ⟨oc6, od6, .func (PySem.W.fnOf "groups_of" "groups_of" (defArgs st_groups_of) (defBody st_groups_of) (defScope st_groups_of) .none kV6 dc6 pm6 an6 cd6 ct6), sl6⟩)
    (c6 : PySem.W.codeIn K cd6 "groups_of" = true)
    (k6 : PySem.W.keepIn K (.ref f6) = true)
    (a7 : PySem.W.nsIn K mainGlobals "first_of" = some (some (.ref f7)))
    (l7 : K.lookup f7 = some ⟨oc7, od7, .func (PySem.W.fnOf "first_of" "first_of" (defArgs st_first_of) (defBody st_first_of) (defScope st_first_of) .none kV7 dc7 pm7 an7 cd7 ct7), sl7⟩)
    (c7 : PySem.W.codeIn K cd7 "first_of" = true)
    (k7 : PySem.W.keepIn K (.ref f7) = true)
    (a8 : PySem.W.nsIn K mainGlobals "is_free" = some (some (.ref f8)))
    (l8 : K.lookup f8 = some ⟨oc8, od8, .func (PySem.W.fnOf "is_free" "is_free" (defArgs st_is_free) (defBody st_is_free) (defScope st_is_free) .none kV8 dc8 pm8 an8 cd8 ct8), sl8⟩)
    (c8 : PySem.W.codeIn K cd8 "is_free" = true)
    (k8 : PySem.W.keepIn K (.ref f8) = true)
    (a9 : PySem.W.nsIn K mainGlobals "led_ones" = some (some (.ref f9)))
    (l9 : K.lookup f9 = some ⟨oc9, od9, .func (PySem.W.fnOf "led_ones" "led_ones" (defArgs st_led_ones) (defBody st_led_ones) (defScope st_led_ones) .none kV9 dc9 pm9 an9 cd9 ct9), sl9⟩)
    (c9 : PySem.W.codeIn K cd9 "led_ones" = true)
    (k9 : PySem.W.keepIn K (.ref f9) = true)
    (a10 : PySem.W.nsIn K mainGlobals "may_be" = some (some (.ref f10)))
    (l10 : K.lookup f10 = some ⟨oc10, od10, .func (PySem.W.fnOf "may_be" "may_be" (defArgs st_may_be) (defBody st_may_be) (defScope st_may_be) .none kV10 dc10 pm10 an10 cd10 ct10), sl10⟩)
    (c10 : PySem.W.codeIn K cd10 "may_be" = true)
    (k10 : PySem.W.keepIn K (.ref f10) = true)
    (a11 : PySem.W.nsIn K mainGlobals "can_lead" = some (some (.ref f11)))
    (l11 : K.lookup f11 = some ⟨oc11, od11, .func (PySem.W.fnOf "can_lead" "can_lead" (defArgs st_can_lead) (defBody st_can_lead) (defScope st_can_lead) .none kV11 dc11 pm11 an11 cd11 ct11), sl11⟩)
    (c11 : PySem.W.codeIn K cd11 "can_lead" = true)
    (k11 : PySem.W.keepIn K (.ref f11) = true)
    (a12 : PySem.W.nsIn K mainGlobals "left_one" = some (some (.ref f12)))
    (l12 : K.lookup f12 = some ⟨oc12, od12, .func (PySem.W.fnOf "left_one" "left_one" (defArgs st_left_one) (defBody st_left_one) (defScope st_left_one) .none kV12 dc12 pm12 an12 cd12 ct12), sl12⟩)
    (c12 : PySem.W.codeIn K cd12 "left_one" = true)
    (k12 : PySem.W.keepIn K (.ref f12) = true)
    (a13 : PySem.W.nsIn K mainGlobals "moved" = some (some (.ref f13)))
    (l13 : K.lookup f13 = some ⟨oc13, od13, .func (PySem.W.fnOf "moved" "moved" (defArgs st_moved) (defBody st_moved) (defScope st_moved) .none kV13 dc13 pm13 an13 cd13 ct13), sl13⟩)
    (c13 : PySem.W.codeIn K cd13 "moved" = true)
    (k13 : PySem.W.keepIn K (.ref f13) = true)
    (a14 : PySem.W.nsIn K mainGlobals "bar_of_going" = some (some (.ref f14)))
    (l14 : K.lookup f14 = some ⟨oc14, od14, .func (PySem.W.fnOf "bar_of_going" "bar_of_going" (defArgs st_bar_of_going) (defBody st_bar_of_going) (defScope st_bar_of_going) .none kV14 dc14 pm14 an14 cd14 ct14), sl14⟩)
    (c14 : PySem.W.codeIn K cd14 "bar_of_going" = true)
    (k14 : PySem.W.keepIn K (.ref f14) = true)
    (a15 : PySem.W.nsIn K mainGlobals "bar_of" = some (some (.ref f15)))
    (l15 : K.lookup f15 = some ⟨oc15, od15, .func (PySem.W.fnOf "bar_of" "bar_of" (defArgs st_bar_of) (defBody st_bar_of) (defScope st_bar_of) .none kV15 dc15 pm15 an15 cd15 ct15), sl15⟩)
    (c15 : PySem.W.codeIn K cd15 "bar_of" = true)
    (k15 : PySem.W.keepIn K (.ref f15) = true)
    (a16 : PySem.W.nsIn K mainGlobals "steps_at" = some (some (.ref f16)))
    (l16 : K.lookup f16 = some ⟨oc16, od16, .func (PySem.W.fnOf "steps_at" "steps_at" (defArgs st_steps_at) (defBody st_steps_at) (defScope st_steps_at) .none kV16 dc16 pm16 an16 cd16 ct16), sl16⟩)
    (c16 : PySem.W.codeIn K cd16 "steps_at" = true)
    (k16 : PySem.W.keepIn K (.ref f16) = true)
    (a17 : PySem.W.nsIn K mainGlobals "behind" = some (some (.ref f17)))
    (l17 : K.lookup f17 = some ⟨oc17, od17, .func (PySem.W.fnOf "behind" "behind" (defArgs st_behind) (defBody st_behind) (defScope st_behind) .none kV17 dc17 pm17 an17 cd17 ct17), sl17⟩)
    (c17 : PySem.W.codeIn K cd17 "behind" = true)
    (k17 : PySem.W.keepIn K (.ref f17) = true)
    (a18 : PySem.W.nsIn K mainGlobals "goings" = some (some (.ref f18)))
    (l18 : K.lookup f18 = some ⟨oc18, od18, .func (PySem.W.fnOf "goings" "goings" (defArgs st_goings) (defBody st_goings) (defScope st_goings) .none kV18 dc18 pm18 an18 cd18 ct18), sl18⟩)
    (c18 : PySem.W.codeIn K cd18 "goings" = true)
    (k18 : PySem.W.keepIn K (.ref f18) = true)
    (a19 : PySem.W.findIn K (.ref C1) "go_on" = some (some (.ref f19)))
    (i19 : PySem.W.isFn K (.ref f19) = true)
    (l19 : K.lookup f19 = some ⟨oc19, od19, .func (PySem.W.fnOf "go_on" "Search.go_on" (defArgs st_Search_go_on) (defBody st_Search_go_on) (defScope st_Search_go_on) .none kV19 dc19 pm19 an19 cd19 ct19), sl19⟩)
    (c19 : PySem.W.codeIn K cd19 "Search.go_on" = true)
    (k19 : PySem.W.keepIn K (.ref f19) = true)
    (a20 : PySem.W.findIn K (.ref C1) "__init__" = some (some (.ref f20)))
    (i20 : PySem.W.isFn K (.ref f20) = true)
    (l20 : K.lookup f20 = some ⟨oc20, od20, .func (PySem.W.fnOf "__init__" "Search.__init__" (defArgs st_Search_init) (defBody st_Search_init) (defScope st_Search_init) .none kV20 dc20 pm20 an20 cd20 ct20), sl20⟩)
    (c20 : PySem.W.codeIn K cd20 "Search.__init__" = true)
    (k20 : PySem.W.keepIn K (.ref f20) = true)
    (a21 : PySem.W.nsIn K mainGlobals "is_met" = some (some (.ref f21)))
    (l21 : K.lookup f21 = some ⟨oc21, od21, .func (PySem.W.fnOf "is_met" "is_met" (defArgs st_is_met) (defBody st_is_met) (defScope st_is_met) .none kV21 dc21 pm21 an21 cd21 ct21), sl21⟩)
    (c21 : PySem.W.codeIn K cd21 "is_met" = true)
    (k21 : PySem.W.keepIn K (.ref f21) = true)
    (a22 : PySem.W.findIn K (.ref C1) "best" = some (some (.ref f22)))
    (i22 : PySem.W.isFn K (.ref f22) = true)
    (l22 : K.lookup f22 = some ⟨oc22, od22, .func (PySem.W.fnOf "best" "Search.best" (defArgs st_Search_best) (defBody st_Search_best) (defScope st_Search_best) .none kV22 dc22 pm22 an22 cd22 ct22), sl22⟩)
    (c22 : PySem.W.codeIn K cd22 "Search.best" = true)
    (k22 : PySem.W.keepIn K (.ref f22) = true)
    (a23 : PySem.W.nsIn K mainGlobals "begin" = some (some (.ref f23)))
    (l23 : K.lookup f23 = some ⟨oc23, od23, .func (PySem.W.fnOf "begin" "begin" (defArgs st_begin) (defBody st_begin) (defScope st_begin) .none kV23 dc23 pm23 an23 cd23 ct23), sl23⟩)
    (c23 : PySem.W.codeIn K cd23 "begin" = true)
    (k23 : PySem.W.keepIn K (.ref f23) = true)
    (a24 : PySem.W.findIn K (.ref C1) "plan_to" = some (some (.ref f24)))
    (i24 : PySem.W.isFn K (.ref f24) = true)
    (l24 : K.lookup f24 = some ⟨oc24, od24, .func (PySem.W.fnOf "plan_to" "Search.plan_to" (defArgs st_Search_plan_to) (defBody st_Search_plan_to) (defScope st_Search_plan_to) .none kV24 dc24 pm24 an24 cd24 ct24), sl24⟩)
    (c24 : PySem.W.codeIn K cd24 "Search.plan_to" = true)
    (k24 : PySem.W.keepIn K (.ref f24) = true)
    (a25 : PySem.W.findIn K (.ref C1) "table" = some (some (.ref f25)))
    (i25 : PySem.W.isFn K (.ref f25) = true)
    (l25 : K.lookup f25 = some ⟨oc25, od25, .func (PySem.W.fnOf "table" "Search.table" (defArgs st_Search_table) (defBody st_Search_table) (defScope st_Search_table) .none kV25 dc25 pm25 an25 cd25 ct25), sl25⟩)
    (c25 : PySem.W.codeIn K cd25 "Search.table" = true)
    (k25 : PySem.W.keepIn K (.ref f25) = true)
    (a26 : PySem.W.nsIn K mainGlobals "fewest" = some (some (.ref f26)))
    (l26 : K.lookup f26 = some ⟨oc26, od26, .func (PySem.W.fnOf "fewest" "fewest" (defArgs st_fewest) (defBody st_fewest) (defScope st_fewest) .none kV26 dc26 pm26 an26 cd26 ct26), sl26⟩)
    (c26 : PySem.W.codeIn K cd26 "fewest" = true)
    (k26 : PySem.W.keepIn K (.ref f26) = true)
    (a27 : PySem.W.findIn K (.ref C2) "__init__" = some (some (.ref f27)))
    (i27 : PySem.W.typeIn K (.ref f27) = some (.type "function"))
    (l27 : K.lookup f27 = some ⟨oc27, od27, .func (PySem.W.fnOf "__init__" "BadHouse.__init__" (defArgs st_BadHouse_init) (defBody st_BadHouse_init) (defScope st_BadHouse_init) .none kV27 dc27 pm27 an27 cd27 ct27), sl27⟩)
    (c27 : PySem.W.codeIn K cd27 "BadHouse.__init__" = true)
    (k27 : PySem.W.keepIn K (.ref f27) = true)
    (a28 : PySem.W.nsIn K mainGlobals "must" = some (some (.ref f28)))
    (l28 : K.lookup f28 = some ⟨oc28, od28, .func (PySem.W.fnOf "must" "must" (defArgs st_must) (defBody st_must) (defScope st_must) .none kV28 dc28 pm28 an28 cd28 ct28), sl28⟩)
    (c28 : PySem.W.codeIn K cd28 "must" = true)
    (k28 : PySem.W.keepIn K (.ref f28) = true)
    (a29 : PySem.W.findIn K (.ref C0) "is_door" = some (some (.ref f29)))
    (i29 : PySem.W.isFn K (.ref f29) = true)
    (l29 : K.lookup f29 = some ⟨oc29, od29, .func (PySem.W.fnOf "is_door" "House.is_door" (defArgs st_House_is_door) (defBody st_House_is_door) (defScope st_House_is_door) .none kV29 dc29 pm29 an29 cd29 ct29), sl29⟩)
    (c29 : PySem.W.codeIn K cd29 "House.is_door" = true)
    (k29 : PySem.W.keepIn K (.ref f29) = true)
    (a30 : PySem.W.nsIn K mainGlobals "is_name" = some (some (.ref f30)))
    (l30 : K.lookup f30 = some ⟨oc30, od30, .func (PySem.W.fnOf "is_name" "is_name" (defArgs st_is_name) (defBody st_is_name) (defScope st_is_name) .none kV30 dc30 pm30 an30 cd30 ct30), sl30⟩)
    (c30 : PySem.W.codeIn K cd30 "is_name" = true)
    (k30 : PySem.W.keepIn K (.ref f30) = true)
    (a31 : PySem.W.findIn K (.ref C0) "is_person" = some (some (.ref f31)))
    (i31 : PySem.W.isFn K (.ref f31) = true)
    (l31 : K.lookup f31 = some ⟨oc31, od31, .func (PySem.W.fnOf "is_person" "House.is_person" (defArgs st_House_is_person) (defBody st_House_is_person) (defScope st_House_is_person) .none kV31 dc31 pm31 an31 cd31 ct31), sl31⟩)
    (c31 : PySem.W.codeIn K cd31 "House.is_person" = true)
    (k31 : PySem.W.keepIn K (.ref f31) = true)
    (a32 : PySem.W.findIn K (.ref C0) "__init__" = some (some (.ref f32)))
    (i32 : PySem.W.isFn K (.ref f32) = true)
    (l32 : K.lookup f32 = some ⟨oc32, od32, .func (PySem.W.fnOf "__init__" "House.__init__" (defArgs st_House_init) (defBody st_House_init) (defScope st_House_init) .none kV32 dc32 pm32 an32 cd32 ct32), sl32⟩)
    (c32 : PySem.W.codeIn K cd32 "House.__init__" = true)
    (k32 : PySem.W.keepIn K (.ref f32) = true)
    (a33 : PySem.W.nsIn K mainGlobals "_law_made" = some (some (.ref f33)))
    (l33 : K.lookup f33 = some ⟨oc33, od33, .func (PySem.W.fnOf "_law_made" "_law_made" (defArgs st_lw_made) (defBody st_lw_made) (defScope st_lw_made) .none kV33 dc33 pm33 an33 cd33 ct33), sl33⟩)
    (c33 : PySem.W.codeIn K cd33 "_law_made" = true)
    (k33 : PySem.W.keepIn K (.ref f33) = true)
    (a34 : PySem.W.nsIn K mainGlobals "law" = some (some (.ref f34)))
    (l34 : K.lookup f34 = some ⟨oc34, od34, .func (PySem.W.fnOf "law" "law" (defArgs st_law) (defBody st_law) (defScope st_law) .none kV34 dc34 pm34 an34 cd34 ct34), sl34⟩)
    (c34 : PySem.W.codeIn K cd34 "law" = true)
    (k34 : PySem.W.keepIn K (.ref f34) = true)
    (pg0 : PySem.W.plainGet K C0 Str.empty = true)
    (hd0 : PySem.W.hasDictIn K C0 = true)
    (po0 : PySem.W.plainOver K C0 = true)
    (sa0 : PySem.W.findIn K (.ref C0) "__setattr__" = some (some (.builtin "object.__setattr__")))
    (mk0 : PySem.W.makesIn K C0 = true)
    (kc0 : PySem.W.keepIn K (.ref C0) = true)
    (nf0_0 : PySem.W.findIn K (.ref C0) "zones" = some none)
    (nf0_1 : PySem.W.findIn K (.ref C0) "hours" = some none)
    (nf0_2 : PySem.W.findIn K (.ref C0) "kept_doors" = some none)
    (nf0_3 : PySem.W.findIn K (.ref C0) "kept_people" = some none)
    (pg1 : PySem.W.plainGet K C1 Str.empty = true)
    (hd1 : PySem.W.hasDictIn K C1 = true)
    (po1 : PySem.W.plainOver K C1 = true)
    (sa1 : PySem.W.findIn K (.ref C1) "__setattr__" = some (some (.builtin "object.__setattr__")))
    (mk1 : PySem.W.makesIn K C1 = true)
    (kc1 : PySem.W.keepIn K (.ref C1) = true)
    (nf1_0 : PySem.W.findIn K (.ref C1) "house" = some none)
    (nf1_1 : PySem.W.findIn K (.ref C1) "hour" = some none)
    (nf1_2 : PySem.W.findIn K (.ref C1) "rows" = some none)
    (nf1_3 : PySem.W.findIn K (.ref C1) "by" = some none)
    (ex2 : PySem.W.subIn K (.ref C2) (.type "BaseException") = some true)
    (ty2 : PySem.W.typeIn K (.ref C2) = some (.type "type"))
    (kc2 : PySem.W.keepIn K (.ref C2) = true)
    (nf2_0 : PySem.W.findIn K (.ref C2) "word" = some none)
    (nf2_1 : PySem.W.findIn K (.ref C2) "number" = some none)
    (sa2 : PySem.W.findIn K (.ref C2) "__setattr__" = some (some (.builtin "object.__setattr__")))
    (xL2 : K.lookup C2 = some (excClassObj nm2 q2 C2 N2 bs2 [.ref C7, .type "ValueError", .type "Exception", .type "BaseException", .type "object"] true sn2 sub2 ab2 col2 dd2 m02 m12 m22 m32 m52 "ValueError.__new__"))
    (ex7 : PySem.W.subIn K (.ref C7) (.type "BaseException") = some true)
    (ty7 : PySem.W.typeIn K (.ref C7) = some (.type "type"))
    (kc7 : PySem.W.keepIn K (.ref C7) = true)
    (rdB : PySem.W.readsIn K C7 (.type "type") = true)
    (gaB : PySem.W.specialIn K (.ref C7) "__getattribute__" = some (some (.builtin "type.__getattribute__")))
    (fiB : PySem.W.findCls K (.ref C7) (.type "type") "__init__" = some (.val (.builtin "ValueError.__init__")))
    (g_BEGIN : PySem.W.nsIn K mainGlobals "BEGIN" = some (some (.int 1 tk_BEGIN)))
    (g_FREE : PySem.W.nsIn K mainGlobals "FREE" = some (some (.int 5 tk_FREE)))
    (g_GOAL : PySem.W.nsIn K mainGlobals "GOAL" = some (some (.int 2 tk_GOAL)))
    (g_LED : PySem.W.nsIn K mainGlobals "LED" = some (some (.int 6 tk_LED)))
    (g_LETTERS : PySem.W.nsIn K mainGlobals "LETTERS" = some (some (.str "abcdefghijklmnopqrstuvwxyz" tk_LETTERS)))
    (g_LONGEST_NAME : PySem.W.nsIn K mainGlobals "LONGEST_NAME" = some (some (.int 8 tk_LONGEST_NAME)))
    (g_MOST_DOORS : PySem.W.nsIn K mainGlobals "MOST_DOORS" = some (some (.int 6 tk_MOST_DOORS)))
    (g_MOST_HOURS : PySem.W.nsIn K mainGlobals "MOST_HOURS" = some (some (.int 8 tk_MOST_HOURS)))
    (g_MOST_PEOPLE : PySem.W.nsIn K mainGlobals "MOST_PEOPLE" = some (some (.int 4 tk_MOST_PEOPLE)))
    (g_MOST_WIDE : PySem.W.nsIn K mainGlobals "MOST_WIDE" = some (some (.int 4 tk_MOST_WIDE)))
    (g_MOST_ZONES : PySem.W.nsIn K mainGlobals "MOST_ZONES" = some (some (.int 4 tk_MOST_ZONES)))
    (g_MOST_houses : PySem.W.nsIn K mainGlobals "MOST_houses" = some (some (.int 3 tk_MOST_houses)))
    (g_MOST_rules : PySem.W.nsIn K mainGlobals "MOST_rules" = some (some (.int 3 tk_MOST_rules)))
    (g_NAME : PySem.W.nsIn K mainGlobals "NAME" = some (some (.int 0 tk_NAME)))
    (g_SINCE : PySem.W.nsIn K mainGlobals "SINCE" = some (some (.int 4 tk_SINCE)))
    (g_WAIT : PySem.W.nsIn K mainGlobals "WAIT" = some (some (.ref aW)))
    (lW : K.lookup aW = some ⟨.type "tuple", dW, .seq #[.str "wait" tkW] nW, slW⟩)
    (n_int : PySem.W.nsIn K mainGlobals "int" = some none)
    (n_len : PySem.W.nsIn K mainGlobals "len" = some none)
    (n_list : PySem.W.nsIn K mainGlobals "list" = some none)
    (n_range : PySem.W.nsIn K mainGlobals "range" = some none)
    (n_reversed : PySem.W.nsIn K mainGlobals "reversed" = some none)
    (n_set : PySem.W.nsIn K mainGlobals "set" = some none)
    (n_sorted : PySem.W.nsIn K mainGlobals "sorted" = some none)
    (n_sum : PySem.W.nsIn K mainGlobals "sum" = some none)
    (n_tuple : PySem.W.nsIn K mainGlobals "tuple" = some none) :
    ∃ fd : FuncData, (∀ (s : Shared) (v : Value), BindsTo s fd ⟨[v], []⟩ [("_law_script", v)]) ∧ ∀ base : Heap, K.In base → base.Ns mainGlobals mg → FnOk l.prog w K mg base CX0 12 fa fd ["_law_script"] (spLaw K) := by
  have e := hfa.symm.trans (PySem.W.mg_of X G a34)
  cases e
  have na2 : ∀ f ∈ fldsT 2, PySem.W.findIn K (.ref C2) f = some none := fun f hf => by
    simp only [fldsT, List.mem_cons, List.not_mem_nil, or_false] at hf
    rcases hf with rfl | rfl
    · exact nf2_1
    · exact nf2_0
  have O2 : OexC K C2 := ⟨⟨nm2, q2, N2, bs2, _, sn2, sub2, ab2, col2, dd2, m02, m12, m22, m32, m52, xL2, rfl⟩, sa2, ex2, ty2, kc2⟩
  have na7 : ∀ f ∈ fldsT 7, PySem.W.findIn K (.ref C7) f = some none := fun f hf => by
    simp [fldsT] at hf
  have F0 := fun_mk (st := st_lw_taken) l0 c0 k0
  have b0 := F0.binds (ps := ["_law_row", "_law_many"]) fun _ _ _ _ _ _ us hl => match us, hl with | [_, _], _ => rfl
  have F1 := fun_mk (st := st_lw_names) l1 c1 k1
  have b1 := F1.binds (ps := ["_law_row"]) fun _ _ _ _ _ _ us hl => match us, hl with | [_], _ => rfl
  have F2 := fun_mk (st := st_lw_person) l2 c2 k2
  have b2 := F2.binds (ps := ["_law_row", "_law_name", "_law_zones"]) fun _ _ _ _ _ _ us hl => match us, hl with | [_, _, _], _ => rfl
  have F3 := fun_mk (st := st_lw_free) l3 c3 k3
  have b3 := F3.binds (ps := ["_law_house_here", "_law_person_here", "_law_zone"]) fun _ _ _ _ _ _ us hl => match us, hl with | [_, _, _], _ => rfl
  have F4 := fun_mk (st := st_lw_left) l4 c4 k4
  have b4 := F4.binds (ps := ["_law_house_here", "_law_state"]) fun _ _ _ _ _ _ us hl => match us, hl with | [_, _], _ => rfl
  have F5 := fun_mk (st := st_lw_house) l5 c5 k5
  have b5 := F5.binds (ps := ["_law_row"]) fun _ _ _ _ _ _ us hl => match us, hl with | [_], _ => rfl
  have F6 := fun_mk (st := st_groups_of) l6 c6 k6
  have b6 := F6.binds (ps := ["many"]) fun _ _ _ _ _ _ us hl => match us, hl with | [_], _ => rfl
  have F7 := fun_mk (st := st_first_of) l7 c7 k7
  have b7 := F7.binds (ps := ["persons"]) fun _ _ _ _ _ _ us hl => match us, hl with | [_], _ => rfl
  have F8 := fun_mk (st := st_is_free) l8 c8 k8
  have b8 := F8.binds (ps := ["house", "person", "zone"]) fun _ _ _ _ _ _ us hl => match us, hl with | [_, _, _], _ => rfl
  have F9 := fun_mk (st := st_led_ones) l9 c9 k9
  have b9 := F9.binds (ps := ["house", "persons", "zones"]) fun _ _ _ _ _ _ us hl => match us, hl with | [_, _, _], _ => rfl
  have F10 := fun_mk (st := st_may_be) l10 c10 k10
  have b10 := F10.binds (ps := ["house", "person", "zone"]) fun _ _ _ _ _ _ us hl => match us, hl with | [_, _, _], _ => rfl
  have F11 := fun_mk (st := st_can_lead) l11 c11 k11
  have b11 := F11.binds (ps := ["house", "persons", "zones"]) fun _ _ _ _ _ _ us hl => match us, hl with | [_, _, _], _ => rfl
  have F12 := fun_mk (st := st_left_one) l12 c12 k12
  have b12 := F12.binds (ps := ["house", "state"]) fun _ _ _ _ _ _ us hl => match us, hl with | [_, _], _ => rfl
  have F13 := fun_mk (st := st_moved) l13 c13 k13
  have b13 := F13.binds (ps := ["state", "group", "zone"]) fun _ _ _ _ _ _ us hl => match us, hl with | [_, _, _], _ => rfl
  have F14 := fun_mk (st := st_bar_of_going) l14 c14 k14
  have b14 := F14.binds (ps := ["house", "state", "group", "here", "there"]) fun _ _ _ _ _ _ us hl => match us, hl with | [_, _, _, _, _], _ => rfl
  have F15 := fun_mk (st := st_bar_of) l15 c15 k15
  have b15 := F15.binds (ps := ["house", "hour", "state", "step"]) fun _ _ _ _ _ _ us hl => match us, hl with | [_, _, _, _], _ => rfl
  have F16 := fun_mk (st := st_steps_at) l16 c16 k16
  have b16 := F16.binds (ps := ["house", "hour", "state"]) fun _ _ _ _ _ _ us hl => match us, hl with | [_, _, _], _ => rfl
  have F17 := fun_mk (st := st_behind) l17 c17 k17
  have b17 := F17.binds (ps := ["house", "state", "step"]) fun _ _ _ _ _ _ us hl => match us, hl with | [_, _, _], _ => rfl
  have F18 := fun_mk (st := st_goings) l18 c18 k18
  have b18 := F18.binds (ps := ["house", "step"]) fun _ _ _ _ _ _ us hl => match us, hl with | [_, _], _ => rfl
  have F19 := fun_mk (st := st_Search_go_on) l19 c19 k19
  have b19 := F19.binds (ps := ["self", "hour"]) fun _ _ _ _ _ _ us hl => match us, hl with | [_, _], _ => rfl
  have F20 := fun_mk (st := st_Search_init) l20 c20 k20
  have b20 := F20.binds (ps := ["self", "house", "hour", "state"]) fun _ _ _ _ _ _ us hl => match us, hl with | [_, _, _, _], _ => rfl
  have F21 := fun_mk (st := st_is_met) l21 c21 k21
  have b21 := F21.binds (ps := ["house", "state"]) fun _ _ _ _ _ _ us hl => match us, hl with | [_, _], _ => rfl
  have F22 := fun_mk (st := st_Search_best) l22 c22 k22
  have b22 := F22.binds (ps := ["self"]) fun _ _ _ _ _ _ us hl => match us, hl with | [_], _ => rfl
  have F23 := fun_mk (st := st_begin) l23 c23 k23
  have b23 := F23.binds (ps := ["house"]) fun _ _ _ _ _ _ us hl => match us, hl with | [_], _ => rfl
  have F24 := fun_mk (st := st_Search_plan_to) l24 c24 k24
  have b24 := F24.binds (ps := ["self", "at", "state"]) fun _ _ _ _ _ _ us hl => match us, hl with | [_, _, _], _ => rfl
  have F25 := fun_mk (st := st_Search_table) l25 c25 k25
  have b25 := F25.binds (ps := ["self"]) fun _ _ _ _ _ _ us hl => match us, hl with | [_], _ => rfl
  have F26 := fun_mk (st := st_fewest) l26 c26 k26
  have b26 := F26.binds (ps := ["house"]) fun _ _ _ _ _ _ us hl => match us, hl with | [_], _ => rfl
  have F27 := fun_mk (st := st_BadHouse_init) l27 c27 k27
  have b27 := F27.binds (ps := ["self", "word", "number"]) fun _ _ _ _ _ _ us hl => match us, hl with | [_, _, _], _ => rfl
  have F28 := fun_mk (st := st_must) l28 c28 k28
  have b28 := F28.binds (ps := ["good", "word", "number"]) fun _ _ _ _ _ _ us hl => match us, hl with | [_, _, _], _ => rfl
  have F29 := fun_mk (st := st_House_is_door) l29 c29 k29
  have b29 := F29.binds (ps := ["self", "door"]) fun _ _ _ _ _ _ us hl => match us, hl with | [_, _], _ => rfl
  have F30 := fun_mk (st := st_is_name) l30 c30 k30
  have b30 := F30.binds (ps := ["text"]) fun _ _ _ _ _ _ us hl => match us, hl with | [_], _ => rfl
  have F31 := fun_mk (st := st_House_is_person) l31 c31 k31
  have b31 := F31.binds (ps := ["self", "number"]) fun _ _ _ _ _ _ us hl => match us, hl with | [_, _], _ => rfl
  have F32 := fun_mk (st := st_House_init) l32 c32 k32
  have b32 := F32.binds (ps := ["self", "zones", "hours", "doors", "people"]) fun _ _ _ _ _ _ us hl => match us, hl with | [_, _, _, _, _], _ => rfl
  have F33 := fun_mk (st := st_lw_made) l33 c33 k33
  have b33 := F33.binds (ps := ["_law_house_here"]) fun _ _ _ _ _ _ us hl => match us, hl with | [_], _ => rfl
  have F34 := fun_mk (st := st_law) l34 c34 k34
  have cT0 : ClsT K C0 (fldsT 0) := ⟨⟨pg0, hd0, po0, sa0⟩, fun f hf => by
    simp only [fldsT, List.mem_cons, List.not_mem_nil, or_false] at hf
    rcases hf with rfl | rfl | rfl | rfl
    · exact nf0_0
    · exact nf0_1
    · exact nf0_2
    · exact nf0_3⟩
  have cT1 : ClsT K C1 (fldsT 1) := ⟨⟨pg1, hd1, po1, sa1⟩, fun f hf => by
    simp only [fldsT, List.mem_cons, List.not_mem_nil, or_false] at hf
    rcases hf with rfl | rfl | rfl | rfl
    · exact nf1_0
    · exact nf1_1
    · exact nf1_2
    · exact nf1_3⟩
  have T : Tx K mg (fun c => match c with | 0 => C0 | 1 => C1 | 2 => C2 | 7 => C7 | _ => C0) := {
    d_lw_taken := ⟨_, _, PySem.W.mg_of X G a0, k0, F0, b0⟩
    d_lw_names := ⟨_, _, PySem.W.mg_of X G a1, k1, F1, b1⟩
    d_lw_person := ⟨_, _, PySem.W.mg_of X G a2, k2, F2, b2⟩
    d_lw_free := ⟨_, _, PySem.W.mg_of X G a3, k3, F3, b3⟩
    d_lw_left := ⟨_, _, PySem.W.mg_of X G a4, k4, F4, b4⟩
    d_lw_house := ⟨_, _, PySem.W.mg_of X G a5, k5, F5, b5⟩
    d_groups_of := ⟨_, _, PySem.W.mg_of X G a6, k6, F6, b6⟩
    d_first_of := ⟨_, _, PySem.W.mg_of X G a7, k7, F7, b7⟩
    d_is_free := ⟨_, _, PySem.W.mg_of X G a8, k8, F8, b8⟩
    d_led_ones := ⟨_, _, PySem.W.mg_of X G a9, k9, F9, b9⟩
    d_may_be := ⟨_, _, PySem.W.mg_of X G a10, k10, F10, b10⟩
    d_can_lead := ⟨_, _, PySem.W.mg_of X G a11, k11, F11, b11⟩
    d_left_one := ⟨_, _, PySem.W.mg_of X G a12, k12, F12, b12⟩
    d_moved := ⟨_, _, PySem.W.mg_of X G a13, k13, F13, b13⟩
    d_bar_of_going := ⟨_, _, PySem.W.mg_of X G a14, k14, F14, b14⟩
    d_bar_of := ⟨_, _, PySem.W.mg_of X G a15, k15, F15, b15⟩
    d_steps_at := ⟨_, _, PySem.W.mg_of X G a16, k16, F16, b16⟩
    d_behind := ⟨_, _, PySem.W.mg_of X G a17, k17, F17, b17⟩
    d_goings := ⟨_, _, PySem.W.mg_of X G a18, k18, F18, b18⟩
    d_Search_go_on := ⟨_, _, ⟨a19, i19, k19⟩, F19, b19⟩
    d_Search_init := ⟨_, _, ⟨mk1, a20, i20, kc1⟩, F20, b20⟩
    d_is_met := ⟨_, _, PySem.W.mg_of X G a21, k21, F21, b21⟩
    d_Search_best := ⟨_, _, ⟨a22, i22, k22⟩, F22, b22⟩
    d_begin := ⟨_, _, PySem.W.mg_of X G a23, k23, F23, b23⟩
    d_Search_plan_to := ⟨_, _, ⟨a24, i24, k24⟩, F24, b24⟩
    d_Search_table := ⟨_, _, ⟨a25, i25, k25⟩, F25, b25⟩
    d_fewest := ⟨_, _, PySem.W.mg_of X G a26, k26, F26, b26⟩
    d_BadHouse_init := ⟨⟨_, _, O2, a27, i27, F27, b27⟩, na2⟩
    d_must := ⟨_, _, PySem.W.mg_of X G a28, k28, F28, b28⟩
    d_House_is_door := ⟨_, _, ⟨a29, i29, k29⟩, F29, b29⟩
    d_is_name := ⟨_, _, PySem.W.mg_of X G a30, k30, F30, b30⟩
    d_House_is_person := ⟨_, _, ⟨a31, i31, k31⟩, F31, b31⟩
    d_House_init := ⟨_, _, ⟨mk0, a32, i32, kc0⟩, F32, b32⟩
    d_lw_made := ⟨_, _, PySem.W.mg_of X G a33, k33, F33, b33⟩
    c0 := cT0
    k_House := PySem.W.mg_of X G aC0
    c1 := cT1
    k_Search := PySem.W.mg_of X G aC1
    k_BadHouse := PySem.W.mg_of X G aC2
    k_BookError := PySem.W.mg_of X G aC7
    bi := ⟨⟨rdB, gaB⟩, fiB⟩
    g_BEGIN := ⟨_, PySem.W.mg_of X G g_BEGIN⟩
    g_FREE := ⟨_, PySem.W.mg_of X G g_FREE⟩
    g_GOAL := ⟨_, PySem.W.mg_of X G g_GOAL⟩
    g_LED := ⟨_, PySem.W.mg_of X G g_LED⟩
    g_LETTERS := ⟨_, PySem.W.mg_of X G g_LETTERS⟩
    g_LONGEST_NAME := ⟨_, PySem.W.mg_of X G g_LONGEST_NAME⟩
    g_MOST_DOORS := ⟨_, PySem.W.mg_of X G g_MOST_DOORS⟩
    g_MOST_HOURS := ⟨_, PySem.W.mg_of X G g_MOST_HOURS⟩
    g_MOST_PEOPLE := ⟨_, PySem.W.mg_of X G g_MOST_PEOPLE⟩
    g_MOST_WIDE := ⟨_, PySem.W.mg_of X G g_MOST_WIDE⟩
    g_MOST_ZONES := ⟨_, PySem.W.mg_of X G g_MOST_ZONES⟩
    g_MOST_houses := ⟨_, PySem.W.mg_of X G g_MOST_houses⟩
    g_MOST_rules := ⟨_, PySem.W.mg_of X G g_MOST_rules⟩
    g_NAME := ⟨_, PySem.W.mg_of X G g_NAME⟩
    g_SINCE := ⟨_, PySem.W.mg_of X G g_SINCE⟩
    g_WAIT := ⟨aW, _, _, _, PySem.W.mg_of X G g_WAIT, lW, rfl, rfl, by show 1 ≤ sizeLine; decide, .cons ⟨_, rfl⟩ .nil⟩
    n_int := PySem.W.mg_none_of X G n_int
    n_len := PySem.W.mg_none_of X G n_len
    n_list := PySem.W.mg_none_of X G n_list
    n_range := PySem.W.mg_none_of X G n_range
    n_reversed := PySem.W.mg_none_of X G n_reversed
    n_set := PySem.W.mg_none_of X G n_set
    n_sorted := PySem.W.mg_none_of X G n_sorted
    n_sum := PySem.W.mg_none_of X G n_sum
    n_tuple := PySem.W.mg_none_of X G n_tuple }
  exact ⟨PySem.W.fnOf "law" "law" (defArgs st_law) (defBody st_law) (defScope st_law) .none kV34 dc34 pm34 an34 cd34 ct34, fun s v => .of_eq rfl, fun base _ _ => law_end (ok_all T F34) law_true⟩
theorem walk {l : PySem.W.OpenLaw} {q : Program} {loose : List Str} {XP : (Str → Option Value) → Heap → Prop} {YP : World → Heap → Prop} {d : DefRec} {K : Params → PySem.W.Frag} (hn : l.most = some 63) (hdf : d.params.defaults = [])
    (hY : ∀ (w : World) (h : Heap), YP w h → (K w.params).In h)
    (F : ∀ (w : World) (mg : Str → Option Value) (fa : Addr) (h : Heap), (K w.params).In h → h.Ns mainGlobals mg → mg d.name = some (.ref fa) →
      ∃ fd : FuncData, (∀ (s : Shared) (u : Value), BindsTo s fd ⟨[u], []⟩ [("_law_script", u)]) ∧ ∀ base : Heap, (K w.params).In base → base.Ns mainGlobals mg → FnOk l.prog w (K w.params) mg base CX0 12 fa fd ["_law_script"] (spLaw (K w.params))) :
    PySem.W.WalkO q loose XP YP l.row.toRowW d [] (fun f vs => PySem.call f vs) :=
  L2.walk_of (n := 63) (k := 12) (x := "_law_script") (CX := fun _ => CX0) (sp := fun w => spLaw (K w.params)) hn (by decide) hdf ⟨rfl, by decide, by decide⟩ hY F (fun _ _ a ns hl _ hS => ⟨a, ns, rfl, hS, hl, fun _ => rfl⟩) fun _ _ _ _ _ z => z
end Eb
open PySem PySem.W PyProof.Rows
set_option maxRecDepth 100000 in
set_option maxHeartbeats 0 in
theorem PySem.Challenge.cw_escortbook_k12_whole_people_told_in_anot_holds : PySem.Challenge.rw_escortbook_k12_whole_people_told_in_anot.Holds := by
  w_on; o_law; k_head; (case hw => w_witness2)
  k_fill
  refine Eb.walk (l := PySem.Challenge.rw_escortbook_k12_whole_people_told_in_anot) rfl rfl (fun w h Y => PySem.W.kIn_of Y) ?F
  case F =>
    intro w mg fa h KX G hmg
    refine' Eb.all_mk KX G hmg ?aC0 ?aC1 ?aC2 ?aC7 ?a0 ?l0 ?c0 ?k0 ?a1 ?l1 ?c1 ?k1 ?a2 ?l2 ?c2 ?k2 ?a3 ?l3 ?c3 ?k3 ?a4 ?l4 ?c4 ?k4 ?a5 ?l5 ?c5 ?k5 ?a6 ?l6 ?c6 ?k6 ?a7 ?l7 ?c7 ?k7 ?a8 ?l8 ?c8 ?k8 ?a9 ?l9 ?c9 ?k9 ?a10 ?l10 ?c10 ?k10 ?a11 ?l11 ?c11 ?k11 ?a12 ?l12 ?c12 ?k12 ?a13 ?l13 ?c13 ?k13 ?a14 ?l14 ?c14 ?k14 ?a15 ?l15 ?c15 ?k15 ?a16 ?l16 ?c16 ?k16 ?a17 ?l17 ?c17 ?k17 ?a18 ?l18 ?c18 ?k18 ?a19 ?i19 ?l19 ?c19 ?k19 ?a20 ?i20 ?l20 ?c20 ?k20 ?a21 ?l21 ?c21 ?k21 ?a22 ?i22 ?l22 ?c22 ?k22 ?a23 ?l23 ?c23 ?k23 ?a24 ?i24 ?l24 ?c24 ?k24 ?a25 ?i25 ?l25 ?c25 ?k25 ?a26 ?l26 ?c26 ?k26 ?a27 ?i27 ?l27 ?c27 ?k27 ?a28 ?l28 ?c28 ?k28 ?a29 ?i29 ?l29 ?c29 ?k29 ?a30 ?l30 ?c30 ?k30 ?a31 ?i31 ?l31 ?c31 ?k31 ?a32 ?i32 ?l32 ?c32 ?k32 ?a33 ?l33 ?c33 ?k33 ?a34 ?l34 ?c34 ?k34 ?pg0 ?hd0 ?po0 ?sa0 ?mk0 ?kc0 ?nf0_0 ?nf0_1 ?nf0_2 ?nf0_3 ?pg1 ?hd1 ?po1 ?sa1 ?mk1 ?kc1 ?nf1_0 ?nf1_1 ?nf1_2 ?nf1_3 ?ex2 ?ty2 ?kc2 ?nf2_0 ?nf2_1 ?sa2 ?xL2 ?ex7 ?ty7 ?kc7 ?rdB ?gaB ?fiB ?g_BEGIN ?g_FREE ?g_GOAL ?g_LED ?g_LETTERS ?g_LONGEST_NAME ?g_MOST_DOORS ?g_MOST_HOURS ?g_MOST_PEOPLE ?g_MOST_WIDE ?g_MOST_ZONES ?g_MOST_houses ?g_MOST_rules ?g_NAME ?g_SINCE ?g_WAIT ?lW ?n_int ?n_len ?n_list ?n_range ?n_reversed ?n_set ?n_sorted ?n_sum ?n_tuple
    (case aC0 => k_is)
    (case aC1 => k_is)
    (case aC2 => k_is)
    (case aC7 => k_is)
    (case a0 => k_is)
    (case l0 => k_is)
    (case c0 => k_is)
    (case k0 => k_is)
    (case a1 => k_is)
    (case l1 => k_is)
    (case c1 => k_is)
    (case k1 => k_is)
    (case a2 => k_is)
    (case l2 => k_is)
    (case c2 => k_is)
    (case k2 => k_is)
    (case a3 => k_is)
    (case l3 => k_is)
    (case c3 => k_is)
    (case k3 => k_is)
    (case a4 => k_is)
    (case l4 => k_is)
    (case c4 => k_is)
    (case k4 => k_is)
    (case a5 => k_is)
    (case l5 => k_is)
    (case c5 => k_is)
    (case k5 => k_is)
    (case a6 => k_is)
    (case l6 => k_is)
    (case c6 => k_is)
    (case k6 => k_is)
    (case a7 => k_is)
    (case l7 => k_is)
    (case c7 => k_is)
    (case k7 => k_is)
    (case a8 => k_is)
    (case l8 => k_is)
    (case c8 => k_is)
    (case k8 => k_is)
    (case a9 => k_is)
    (case l9 => k_is)
    (case c9 => k_is)
    (case k9 => k_is)
    (case a10 => k_is)
    (case l10 => k_is)
    (case c10 => k_is)
    (case k10 => k_is)
    (case a11 => k_is)
    (case l11 => k_is)
    (case c11 => k_is)
    (case k11 => k_is)
    (case a12 => k_is)
    (case l12 => k_is)
    (case c12 => k_is)
    (case k12 => k_is)
    (case a13 => k_is)
    (case l13 => k_is)
    (case c13 => k_is)
    (case k13 => k_is)
    (case a14 => k_is)
    (case l14 => k_is)
    (case c14 => k_is)
    (case k14 => k_is)
    (case a15 => k_is)
    (case l15 => k_is)
    (case c15 => k_is)
    (case k15 => k_is)
    (case a16 => k_is)
    (case l16 => k_is)
    (case c16 => k_is)
    (case k16 => k_is)
    (case a17 => k_is)
    (case l17 => k_is)
    (case c17 => k_is)
    (case k17 => k_is)
    (case a18 => k_is)
    (case l18 => k_is)
    (case c18 => k_is)
    (case k18 => k_is)
    (case a19 => k_is)
    (case i19 => k_is)
    (case l19 => k_is)
    (case c19 => k_is)
    (case k19 => k_is)
    (case a20 => k_is)
    (case i20 => k_is)
    (case l20 => k_is)
    (case c20 => k_is)
    (case k20 => k_is)
    (case a21 => k_is)
    (case l21 => k_is)
    (case c21 => k_is)
    (case k21 => k_is)
    (case a22 => k_is)
    (case i22 => k_is)
    (case l22 => k_is)
    (case c22 => k_is)
    (case k22 => k_is)
    (case a23 => k_is)
    (case l23 => k_is)
    (case c23 => k_is)
    (case k23 => k_is)
    (case a24 => k_is)
    (case i24 => k_is)
    (case l24 => k_is)
    (case c24 => k_is)
    (case k24 => k_is)
    (case a25 => k_is)
    (case i25 => k_is)
    (case l25 => k_is)
    (case c25 => k_is)
    (case k25 => k_is)
    (case a26 => k_is)
    (case l26 => k_is)
    (case c26 => k_is)
    (case k26 => k_is)
    (case a27 => k_is)
    (case i27 => k_is)
    (case l27 => k_is)
    (case c27 => k_is)
    (case k27 => k_is)
    (case a28 => k_is)
    (case l28 => k_is)
    (case c28 => k_is)
    (case k28 => k_is)
    (case a29 => k_is)
    (case i29 => k_is)
    (case l29 => k_is)
    (case c29 => k_is)
    (case k29 => k_is)
    (case a30 => k_is)
    (case l30 => k_is)
    (case c30 => k_is)
    (case k30 => k_is)
    (case a31 => k_is)
    (case i31 => k_is)
    (case l31 => k_is)
    (case c31 => k_is)
    (case k31 => k_is)
    (case a32 => k_is)
    (case i32 => k_is)
    (case l32 => k_is)
    (case c32 => k_is)
    (case k32 => k_is)
    (case a33 => k_is)
    (case l33 => k_is)
    (case c33 => k_is)
    (case k33 => k_is)
    (case a34 => k_is)
    (case l34 => k_is)
    (case c34 => k_is)
    (case k34 => k_is)
    (case pg0 => k_is)
    (case hd0 => k_is)
    (case po0 => k_is)
    (case sa0 => k_is)
    (case mk0 => k_is)
    (case kc0 => k_is)
    (case nf0_0 => k_is)
    (case nf0_1 => k_is)
    (case nf0_2 => k_is)
    (case nf0_3 => k_is)
    (case pg1 => k_is)
    (case hd1 => k_is)
    (case po1 => k_is)
    (case sa1 => k_is)
    (case mk1 => k_is)
    (case kc1 => k_is)
    (case nf1_0 => k_is)
    (case nf1_1 => k_is)
    (case nf1_2 => k_is)
    (case nf1_3 => k_is)
    (case ex2 => k_is)
    (case ty2 => k_is)
    (case kc2 => k_is)
    (case nf2_0 => k_is)
    (case nf2_1 => k_is)
    (case sa2 => k_is)
    (case xL2 => k_is)
    (case ex7 => k_is)
    (case ty7 => k_is)
    (case kc7 => k_is)
    (case rdB => k_is)
    (case gaB => k_is)
    (case fiB => k_is)
    (case g_BEGIN => k_is)
    (case g_FREE => k_is)
    (case g_GOAL => k_is)
    (case g_LED => k_is)
    (case g_LETTERS => k_is)
    (case g_LONGEST_NAME => k_is)
    (case g_MOST_DOORS => k_is)
    (case g_MOST_HOURS => k_is)
    (case g_MOST_PEOPLE => k_is)
    (case g_MOST_WIDE => k_is)
    (case g_MOST_ZONES => k_is)
    (case g_MOST_houses => k_is)
    (case g_MOST_rules => k_is)
    (case g_NAME => k_is)
    (case g_SINCE => k_is)
    (case g_WAIT => k_is)
    (case lW => k_is)
    (case n_int => k_is)
    (case n_len => k_is)
    (case n_list => k_is)
    (case n_range => k_is)
    (case n_reversed => k_is)
    (case n_set => k_is)
    (case n_sorted => k_is)
    (case n_sum => k_is)
    (case n_tuple => k_is)

