import PyProof.Rows.All
import Wide.All
import OpenK.AllK
import Wide.FinOn
import HandS.ForMost
import HandS.Exc
import HandS.ExcOwn
import HandS.TryOnly
import HandS.TryMany
import HandS.CallSlots
import HandS.WordsExc
import HandS.Walk
import HandS.TupAny
import HandS.TupMul
import HandS.Wide
import HandS.IsInst
import HandS.Conv
import HandS.More
import HandS.Text
import HandS.Style
import KE.KStateDown
import HandS.Defaults
import HandS.Head0
import HandS.Head1
import HandS.Head2
import HandS.HeadEnd
import HandS.HeadHook1
import HandS.HeadHook2
import HandS.HeadHook3
import HandS.HeadHook4
import KE.GoesMore
import HandS.Zip
import PyProof.LongRange
import KE.KDictZip
import KE.KSortKeySt
import KE.KTupSum
import HandS.SortKw
import HandS.Star
import HandS.RaiseMore
import HandS.OwnEq
import HandS.SortInts
import PyProof.ListNew
import KE.KDictCopyH
import HandS.SetKeys
import HandS.DictComp
import KE.KeyNested
import KE.KDictWalk
import PySem.Challenge.RW_hourbells_k12_things_that_hold
set_option Elab.async false
set_option linter.all false
set_option maxRecDepth 100000
set_option maxHeartbeats 4000000
/-! The layer of plain data: values as trees, mutable objects as numbered cells. -/
namespace WL
open PySem L2
/-- plain data -/
inductive D where
  | non | bl (b : Bool) | int (i : Int) | str (x : Str)
  | tup (l : List D) | lst (l : List D) | scr (l : List Int)
  | obj (C : Addr) (ns : List Str) (l : List D)
  | dic (ks : List Key) (l : List D)
  | dct (ks : List (List Key)) (l : List D)
  | ty (n : String) | cls (C : Addr)
/-- the heap only grew -/
def Ex (H H' : Hp) : Prop := ∀ a o, H a = some o → H' a = some o
theorem Ex.refl (H : Hp) : Ex H H := fun _ _ h => h
theorem Ex.trans {H H1 H2 : Hp} (a : Ex H H1) (b : Ex H1 H2) : Ex H H2 := fun x o h => b x o (a x o h)
theorem Ex.new {H : Hp} {p : Addr} {o : HO} (h : H p = none) : Ex H (upd H p o) := fun a u e => by
  rw [upd_ne (ne_of_none e h)]; exact e
theorem ex_rd {H H' : Hp} {a : Addr} {u : HO} (e : Ex H H') (h : Rd H a u) : Rd H' a u := by
  rcases h with h | ⟨o, h⟩
  · exact Or.inl (e a _ h)
  · exact Or.inr ⟨o, e a _ h⟩
theorem ex_l {K : PySem.W.Frag} {H H' : Hp} {a : Addr} {xs : List V} (e : Ex H H') (h : SqL K H a xs) : SqL K H' a xs := by
  rcases h with h | h
  · exact Or.inl (ex_rd e h)
  · exact Or.inr h
theorem ex_t {K : PySem.W.Frag} {H H' : Hp} {a : Addr} {xs : List V} (e : Ex H H') (h : SqT K H a xs) : SqT K H' a xs := by
  rcases h with h | h
  · exact Or.inl (ex_rd e h)
  · exact Or.inr h
mutual
/-- the value v is the data d -/
def Rp (K : PySem.W.Frag) (I : Hp) : D → V → Prop
  | .non, v => v = .non
  | .bl b, v => v = .bl b
  | .int i, v => v = .int i
  | .str x, v => v = .str x
  | .tup l, v => ∃ a vs, v = .ref a ∧ SqT K I a vs ∧ Rps K I l vs
  | .lst l, v => ∃ a vs, v = .ref a ∧ I a = some (.lst vs) ∧ Rps K I l vs
  | .scr l, v => ∃ a, v = .ref a ∧ SqL K I a (l.map V.int)
  | .obj C ns l, v => ∃ a dx vs, v = .ref a ∧ I a = some (.ins C dx (ns.zip vs)) ∧ ns.length = vs.length ∧ Rps K I l vs
  | .dic ks l, v => ∃ a vs, v = .ref a ∧ I a = some (.dK (ks.zip vs)) ∧ ks.length = vs.length ∧ Rps K I l vs
  | .dct ks l, v => ∃ a vs, v = .ref a ∧ I a = some (.dT (ks.zip vs)) ∧ ks.length = vs.length ∧ Rps K I l vs
  | .ty n, v => v = .ty n
  | .cls C, v => v = .ref C
def Rps (K : PySem.W.Frag) (I : Hp) : List D → List V → Prop
  | [], vs => vs = []
  | d :: ds, vs => ∃ v r, vs = v :: r ∧ Rp K I d v ∧ Rps K I ds r
end
mutual
theorem Rp.ex {K : PySem.W.Frag} {I I' : Hp} (e : Ex I I') : ∀ (d : D) {v : V}, Rp K I d v → Rp K I' d v
  | .non, _, h => h
  | .bl _, _, h => h
  | .int _, _, h => h
  | .str _, _, h => h
  | .tup l, _, ⟨a, vs, h1, h2, h3⟩ => ⟨a, vs, h1, ex_t e h2, Rps.ex e l h3⟩
  | .lst l, _, ⟨a, vs, h1, h2, h3⟩ => ⟨a, vs, h1, e _ _ h2, Rps.ex e l h3⟩
  | .scr l, _, ⟨a, h1, h2⟩ => ⟨a, h1, ex_l e h2⟩
  | .obj C ns l, _, ⟨a, dx, vs, h1, h2, h3, h4⟩ => ⟨a, dx, vs, h1, e _ _ h2, h3, Rps.ex e l h4⟩
  | .dic ks l, _, ⟨a, vs, h1, h2, h3, h4⟩ => ⟨a, vs, h1, e _ _ h2, h3, Rps.ex e l h4⟩
  | .dct ks l, _, ⟨a, vs, h1, h2, h3, h4⟩ => ⟨a, vs, h1, e _ _ h2, h3, Rps.ex e l h4⟩
  | .ty _, _, h => h
  | .cls _, _, h => h
theorem Rps.ex {K : PySem.W.Frag} {I I' : Hp} (e : Ex I I') : ∀ (l : List D) {vs : List V}, Rps K I l vs → Rps K I' l vs
  | [], _, h => h
  | d :: ds, _, ⟨v, r, h1, h2, h3⟩ => ⟨v, r, h1, Rp.ex e d h2, Rps.ex e ds h3⟩
end
section
variable {K : PySem.W.Frag} {I : Hp}
theorem Rps.len : ∀ {l : List D} {vs : List V}, Rps K I l vs → vs.length = l.length
  | [], _, h => by rw [show _ = [] from h]; rfl
  | d :: ds, _, ⟨v, r, h1, h2, h3⟩ => by rw [h1, List.length_cons, List.length_cons, Rps.len h3]
theorem Rps.get : ∀ {l : List D} {vs : List V} {i : Nat} {d : D}, Rps K I l vs → l[i]? = some d → ∃ v, vs[i]? = some v ∧ Rp K I d v
  | [], _, _, _, _, e => by simp at e
  | d :: ds, _, 0, x, ⟨v, r, h1, h2, h3⟩, e => by
    have : d = x := by simpa using e
    subst this
    exact ⟨v, by rw [h1]; rfl, h2⟩
  | d :: ds, _, i + 1, x, ⟨v, r, h1, h2, h3⟩, e => by
    obtain ⟨u, g1, g2⟩ := Rps.get (i := i) (d := x) h3 (by simpa using e)
    exact ⟨u, by rw [h1]; simpa using g1, g2⟩
theorem Rps.get' : ∀ {l : List D} {vs : List V} {i : Nat} {v : V}, Rps K I l vs → vs[i]? = some v → ∃ d, l[i]? = some d ∧ Rp K I d v
  | [], _, i, v, h, e => by rw [show _ = [] from h] at e; simp at e
  | d :: ds, _, 0, x, ⟨v, r, h1, h2, h3⟩, e => by
    rw [h1] at e
    have : v = x := by simpa using e
    subst this
    exact ⟨d, rfl, h2⟩
  | d :: ds, _, i + 1, x, ⟨v, r, h1, h2, h3⟩, e => by
    rw [h1] at e
    obtain ⟨u, g1, g2⟩ := Rps.get' (i := i) (v := x) h3 (by simpa using e)
    exact ⟨u, by simpa using g1, g2⟩
theorem Rps.nil : Rps K I [] [] := rfl
theorem Rps.cons {d : D} {v : V} {l : List D} {vs : List V} (h : Rp K I d v) (r : Rps K I l vs) : Rps K I (d :: l) (v :: vs) := ⟨v, vs, rfl, h, r⟩
theorem Rps.append : ∀ {l m : List D} {vs ws : List V}, Rps K I l vs → Rps K I m ws → Rps K I (l ++ m) (vs ++ ws)
  | [], _, _, _, h, g => by rw [show _ = [] from h]; exact g
  | d :: ds, _, _, _, ⟨v, r, h1, h2, h3⟩, g => by rw [h1]; exact ⟨v, _, rfl, h2, Rps.append h3 g⟩
theorem Rps.snoc {l : List D} {d : D} {vs : List V} {v : V} (h : Rps K I l vs) (g : Rp K I d v) : Rps K I (l ++ [d]) (vs ++ [v]) := Rps.append h (Rps.cons g Rps.nil)
theorem Rps.take : ∀ (n : Nat) {l : List D} {vs : List V}, Rps K I l vs → Rps K I (l.take n) (vs.take n)
  | 0, _, _, _ => by rw [List.take_zero, List.take_zero]; exact Rps.nil
  | _ + 1, [], _, h => by rw [show _ = [] from h]; exact Rps.nil
  | n + 1, d :: ds, _, ⟨v, r, h1, h2, h3⟩ => by rw [h1]; exact ⟨v, _, rfl, h2, Rps.take n h3⟩
theorem Rps.drop : ∀ (n : Nat) {l : List D} {vs : List V}, Rps K I l vs → Rps K I (l.drop n) (vs.drop n)
  | 0, _, _, h => h
  | _ + 1, [], _, h => by rw [show _ = [] from h]; exact Rps.nil
  | n + 1, d :: ds, _, ⟨v, r, h1, h2, h3⟩ => by rw [h1]; exact Rps.drop n h3
theorem Rps.set : ∀ (i : Nat) {l : List D} {vs : List V} {d : D} {v : V}, Rps K I l vs → Rp K I d v → Rps K I (l.set i d) (vs.set i v)
  | _, [], _, _, _, h, _ => by rw [show _ = [] from h]; exact Rps.nil
  | 0, d :: ds, _, _, _, ⟨v, r, h1, h2, h3⟩, g => by rw [h1]; exact ⟨_, _, rfl, g, h3⟩
  | i + 1, d :: ds, _, _, _, ⟨v, r, h1, h2, h3⟩, g => by rw [h1]; exact ⟨_, _, rfl, h2, Rps.set i h3 g⟩
theorem Rps.rev : ∀ {l : List D} {vs : List V}, Rps K I l vs → Rps K I l.reverse vs.reverse
  | [], _, h => by rw [show _ = [] from h]; exact Rps.nil
  | d :: ds, _, ⟨v, r, h1, h2, h3⟩ => by
    rw [h1, List.reverse_cons, List.reverse_cons]
    exact Rps.snoc (Rps.rev h3) h2
theorem Rps.ints : ∀ {l : List Int} {vs : List V}, Rps K I (l.map D.int) vs → vs = l.map V.int
  | [], _, h => h
  | i :: r, _, ⟨v, q, h1, h2, h3⟩ => by rw [h1, Rps.ints h3, show v = .int i from h2]; rfl
theorem Rps.ofInts : ∀ (l : List Int), Rps K I (l.map D.int) (l.map V.int)
  | [] => Rps.nil
  | i :: r => Rps.cons (show Rp K I (.int i) (.int i) from rfl) (Rps.ofInts r)
theorem Rps.bls : ∀ {l : List Bool} {vs : List V}, Rps K I (l.map D.bl) vs → vs = l.map V.bl
  | [], _, h => h
  | i :: r, _, ⟨v, q, h1, h2, h3⟩ => by rw [h1, Rps.bls h3, show v = .bl i from h2]; rfl
theorem Rps.ofStrs : ∀ (l : List Str), Rps K I (l.map D.str) (l.map V.str)
  | [] => Rps.nil
  | i :: r => Rps.cons (show Rp K I (.str i) (.str i) from rfl) (Rps.ofStrs r)
end
/-- what a name, an expression holds: data, or the n-th cell -/
inductive W where
  | im (d : D) | ce (n : Nat)
/-- a mutable object -/
inductive Cell where
  | lst (l : List D) | dic (ks : List Key) (l : List D) | ins (C : Addr) (ns : List Str) (ws : List W) | xo (R : Hp → Addr → HO → Prop) | xw (R : Hp → List V → Addr → HO → Prop) (ws : List W)
/-- a state of the world: the immutable part, the heap, the cells' addresses, the cells -/
structure Wd where
  I : Hp
  H : Hp
  th : List Addr
  c : List Cell
def RW (K : PySem.W.Frag) (I : Hp) (th : List Addr) : W → V → Prop
  | .im d, v => Rp K I d v
  | .ce n, v => ∃ a, th[n]? = some a ∧ v = .ref a
def RWs (K : PySem.W.Frag) (I : Hp) (th : List Addr) : List W → List V → Prop
  | [], vs => vs = []
  | w :: ws, vs => ∃ v r, vs = v :: r ∧ RW K I th w v ∧ RWs K I th ws r
def CellOk (K : PySem.W.Frag) (I H : Hp) (th : List Addr) (a : Addr) : Cell → Prop
  | .lst l => ∃ vs, H a = some (.lst vs) ∧ Rps K I l vs
  | .dic ks l => ∃ vs, H a = some (.dK (ks.zip vs)) ∧ ks.length = vs.length ∧ Rps K I l vs
  | .ins C ns ws => ∃ dx vs, H a = some (.ins C dx (ns.zip vs)) ∧ ns.length = vs.length ∧ RWs K I th ws vs
  | .xo R => ∃ o, H a = some o ∧ ∀ I', Ex I I' → R I' a o
  | .xw R ws => ∃ o vs, H a = some o ∧ RWs K I th ws vs ∧ ∀ I', Ex I I' → R I' vs a o
structure Wd.Ok (K : PySem.W.Frag) (κ : Wd) : Prop where
  ex : Ex κ.I κ.H
  len : κ.th.length = κ.c.length
  nd : κ.th.Nodup
  off : ∀ a ∈ κ.th, κ.I a = none
  cl : ∀ (n : Nat) a k, κ.th[n]? = some a → κ.c[n]? = some k → CellOk K κ.I κ.H κ.th a k
structure Wd.le (κ κ' : Wd) : Prop where
  ii : Ex κ.I κ'.I
  th : ∀ (n : Nat) a, κ.th[n]? = some a → κ'.th[n]? = some a
  fr : ∀ a o, κ.H a = some o → a ∉ κ.th → κ'.H a = some o
  hd : ∀ a, κ.H a ≠ none → κ'.H a ≠ none
  nw : ∀ a, κ.H a ≠ none → κ.I a = none → κ'.I a = none
  nt : ∀ a, a ∈ κ'.th → a ∉ κ.th → κ.H a = none
theorem mem_of_at {l : List Addr} {n : Nat} {a : Addr} (h : l[n]? = some a) : a ∈ l := List.mem_of_getElem? h
theorem Wd.le.refl (κ : Wd) : κ.le κ := ⟨Ex.refl _, fun _ _ h => h, fun _ _ h _ => h, fun _ h => h, fun _ _ h => h, fun _ h n => absurd h n⟩
theorem Wd.le.trans {κ κ1 κ2 : Wd} (a : κ.le κ1) (b : κ1.le κ2) : κ.le κ2 where
  ii := a.ii.trans b.ii
  th := fun n x h => b.th n x (a.th n x h)
  fr := fun x o h n => b.fr x o (a.fr x o h n) fun m => by
    rw [a.nt x m n] at h; cases h
  hd := fun x h => b.hd x (a.hd x h)
  nw := fun x h n => b.nw x (a.hd x h) (a.nw x h n)
  nt := fun x h n => by
    by_cases m : x ∈ κ1.th
    · exact a.nt x m n
    · have z := b.nt x h m
      cases q : κ.H x with
      | none => rfl
      | some o => exact absurd z (a.hd x (by rw [q]; intro e; cases e))
section
variable {K : PySem.W.Frag}
theorem RW.mono {I I' : Hp} {th th' : List Addr} (e : Ex I I') (t : ∀ (n : Nat) a, th[n]? = some a → th'[n]? = some a) : ∀ {w : W} {v : V}, RW K I th w v → RW K I' th' w v
  | .im d, _, h => Rp.ex e d h
  | .ce n, _, ⟨a, h1, h2⟩ => ⟨a, t n a h1, h2⟩
theorem RWs.mono {I I' : Hp} {th th' : List Addr} (e : Ex I I') (t : ∀ (n : Nat) a, th[n]? = some a → th'[n]? = some a) : ∀ {ws : List W} {vs : List V}, RWs K I th ws vs → RWs K I' th' ws vs
  | [], _, h => h
  | w :: ws, _, ⟨v, r, h1, h2, h3⟩ => ⟨v, r, h1, h2.mono e t, RWs.mono e t h3⟩
theorem RW.le {κ κ' : Wd} (e : κ.le κ') : ∀ {w : W} {v : V}, RW K κ.I κ.th w v → RW K κ'.I κ'.th w v
  | .im d, _, h => Rp.ex e.ii d h
  | .ce n, _, ⟨a, h1, h2⟩ => ⟨a, e.th n a h1, h2⟩
theorem RWs.le {κ κ' : Wd} (e : κ.le κ') : ∀ {ws : List W} {vs : List V}, RWs K κ.I κ.th ws vs → RWs K κ'.I κ'.th ws vs
  | [], _, h => h
  | w :: ws, _, ⟨v, r, h1, h2, h3⟩ => ⟨v, r, h1, h2.le e, RWs.le e h3⟩
theorem RWs.len {I : Hp} {th : List Addr} : ∀ {ws : List W} {vs : List V}, RWs K I th ws vs → vs.length = ws.length
  | [], _, h => by rw [show _ = [] from h]; rfl
  | w :: ws, _, ⟨v, r, h1, h2, h3⟩ => by rw [h1, List.length_cons, List.length_cons, RWs.len h3]
theorem RWs.get {I : Hp} {th : List Addr} : ∀ {ws : List W} {vs : List V} {i : Nat} {w : W}, RWs K I th ws vs → ws[i]? = some w → ∃ v, vs[i]? = some v ∧ RW K I th w v
  | [], _, _, _, _, e => by simp at e
  | w :: ws, _, 0, x, ⟨v, r, h1, h2, h3⟩, e => by
    have : w = x := by simpa using e
    subst this
    exact ⟨v, by rw [h1]; rfl, h2⟩
  | w :: ws, _, i + 1, x, ⟨v, r, h1, h2, h3⟩, e => by
    obtain ⟨u, g1, g2⟩ := RWs.get (i := i) (w := x) h3 (by simpa using e)
    exact ⟨u, by rw [h1]; simpa using g1, g2⟩
end
/-- the names' slots -/
abbrev Ρ := List (Option W)
structure REnv (K : PySem.W.Frag) (κ : Wd) (σ : L2.St) (ρ : Ρ) : Prop where
  len : σ.length = ρ.length
  at_ : ∀ (i : Nat) (w : W), ρ[i]? = some (some w) → ∃ v, σ[i]? = some (some v) ∧ RW K κ.I κ.th w v
section
variable {K : PySem.W.Frag} {κ κ' : Wd} {σ : L2.St} {ρ : Ρ}
theorem REnv.le (h : REnv K κ σ ρ) (e : κ.le κ') : REnv K κ' σ ρ := ⟨h.len, fun i w hi => by
  obtain ⟨v, h1, h2⟩ := h.at_ i w hi
  exact ⟨v, h1, h2.le e⟩⟩
theorem REnv.set (h : REnv K κ σ ρ) {i : Nat} {w : W} {v : V} (r : RW K κ.I κ.th w v) : REnv K κ (σ.set i (some v)) (ρ.set i (some w)) := ⟨by rw [List.length_set, List.length_set, h.len], fun j x hj => by
  by_cases e : i = j
  · subst e
    by_cases hl : i < ρ.length
    · rw [List.getElem?_set_self hl] at hj
      have : w = x := by simpa using hj
      subst this
      exact ⟨v, by rw [List.getElem?_set_self (by rw [h.len]; exact hl)], r⟩
    · rw [List.getElem?_eq_none (by rw [List.length_set]; omega)] at hj; cases hj
  · rw [List.getElem?_set_ne e] at hj
    rw [List.getElem?_set_ne e]
    exact h.at_ j x hj⟩
theorem REnv.unset (h : REnv K κ σ ρ) (i : Nat) : REnv K κ (σ.set i none) (ρ.set i none) := ⟨by rw [List.length_set, List.length_set, h.len], fun j x hj => by
  by_cases e : i = j
  · subst e
    by_cases hl : i < ρ.length
    · rw [List.getElem?_set_self hl] at hj; simp at hj
    · rw [List.getElem?_eq_none (by rw [List.length_set]; omega)] at hj; cases hj
  · rw [List.getElem?_set_ne e] at hj
    rw [List.getElem?_set_ne e]
    exact h.at_ j x hj⟩
def wipeW (ρ : Ρ) : List Nat → Ρ
  | [] => ρ
  | v :: vs => (wipeW ρ vs).set v none
theorem REnv.wipe (h : REnv K κ σ ρ) : ∀ vs : List Nat, REnv K κ (L2.wipe σ vs) (wipeW ρ vs)
  | [] => h
  | v :: vs => (REnv.wipe h vs).unset v
end
/-! ### how a world grows -/
section
variable {K : PySem.W.Frag} {κ : Wd}
/-- data in the immutable part is data of the heap -/
theorem Wd.Ok.rp (o : κ.Ok K) {d : D} {v : V} (h : Rp K κ.I d v) : Rp K κ.H d v := Rp.ex o.ex d h
theorem CellOk.le {κ κ' : Wd} (e : κ.le κ') {a : Addr} : ∀ {k : Cell}, CellOk K κ.I κ.H κ.th a k → κ'.H a = κ.H a → CellOk K κ'.I κ'.H κ'.th a k
  | .lst l, ⟨vs, h1, h2⟩, q => ⟨vs, q.trans h1, Rps.ex e.ii l h2⟩
  | .dic ks l, ⟨vs, h1, h2, h3⟩, q => ⟨vs, q.trans h1, h2, Rps.ex e.ii l h3⟩
  | .ins C ns ws, ⟨dx, vs, h1, h2, h3⟩, q => ⟨dx, vs, q.trans h1, h2, h3.le e⟩
  | .xo R, ⟨o, h1, h2⟩, q => ⟨o, q.trans h1, fun I' x => h2 I' (e.ii.trans x)⟩
  | .xw R ws, ⟨o, vs, h1, h2, h3⟩, q => ⟨o, vs, q.trans h1, h2.le e, fun I' x => h3 I' (e.ii.trans x)⟩
/-- a new immutable object -/
theorem Wd.new_le (o : κ.Ok K) {p : Addr} {u : HO} (hp : κ.H p = none) : κ.le ⟨upd κ.I p u, upd κ.H p u, κ.th, κ.c⟩ where
  ii := fun a x h => by
    have : a ≠ p := fun z => by subst z; rw [o.ex _ _ h] at hp; cases hp
    show upd κ.I p u a = _
    rw [upd_ne this]; exact h
  th := fun _ _ h => h
  fr := fun a x h _ => by
    show upd κ.H p u a = _
    rw [upd_ne (ne_of_none h hp)]; exact h
  hd := fun a h => by
    show upd κ.H p u a ≠ none
    have : a ≠ p := fun z => by subst z; exact h hp
    rw [upd_ne this]; exact h
  nw := fun a h n => by
    show upd κ.I p u a = none
    have : a ≠ p := fun z => by subst z; exact h hp
    rw [upd_ne this]; exact n
  nt := fun a h n => absurd h n
theorem Wd.Ok.thH (o : κ.Ok K) {a : Addr} (h : a ∈ κ.th) : κ.H a ≠ none := by
  obtain ⟨n, hn, e⟩ := List.getElem_of_mem h
  have h1 : κ.th[n]? = some a := by rw [List.getElem?_eq_getElem hn, e]
  have h2 : n < κ.c.length := by rw [← o.len]; exact hn
  have h3 : κ.c[n]? = some κ.c[n] := List.getElem?_eq_getElem h2
  have := o.cl n a _ h1 h3
  cases hk : κ.c[n] with
  | lst l => rw [hk] at this; obtain ⟨vs, q, _⟩ := this; rw [q]; intro z; cases z
  | dic ks l => rw [hk] at this; obtain ⟨vs, q, _⟩ := this; rw [q]; intro z; cases z
  | ins C ns ws => rw [hk] at this; obtain ⟨dx, vs, q, _⟩ := this; rw [q]; intro z; cases z
  | xo R => rw [hk] at this; obtain ⟨u, q, _⟩ := this; rw [q]; intro z; cases z
  | xw R ws => rw [hk] at this; obtain ⟨u, vs, q, _⟩ := this; rw [q]; intro z; cases z
theorem Wd.Ok.new (o : κ.Ok K) {p : Addr} {u : HO} (hp : κ.H p = none) : Wd.Ok K ⟨upd κ.I p u, upd κ.H p u, κ.th, κ.c⟩ where
  ex := fun a x h => by
    show upd κ.H p u a = some x
    have h : upd κ.I p u a = some x := h
    by_cases e : a = p
    · subst e
      rw [upd_same] at h
      cases h; exact upd_same
    · rw [upd_ne e] at h
      rw [upd_ne e]; exact o.ex _ _ h
  len := o.len
  nd := o.nd
  off := fun a h => by
    show upd κ.I p u a = none
    have : a ≠ p := fun z => by subst z; exact o.thH h hp
    rw [upd_ne this]; exact o.off a h
  cl := fun n a k h1 h2 => (o.cl n a k h1 h2).le (Wd.new_le o hp) (by
    show upd κ.H p u a = κ.H a
    have : a ≠ p := fun z => by subst z; exact o.thH (mem_of_at h1) hp
    rw [upd_ne this])
/-- a new tracked object that no name of data speaks of (an instance's own dict) -/
theorem Wd.aux_le {p : Addr} {u : HO} (hp : κ.H p = none) : κ.le ⟨κ.I, upd κ.H p u, κ.th, κ.c⟩ where
  ii := Ex.refl _
  th := fun _ _ h => h
  fr := fun a x h _ => by
    show upd κ.H p u a = _
    rw [upd_ne (ne_of_none h hp)]; exact h
  hd := fun a h => by
    show upd κ.H p u a ≠ none
    have : a ≠ p := fun z => by subst z; exact h hp
    rw [upd_ne this]; exact h
  nw := fun _ _ n => n
  nt := fun a h n => absurd h n
theorem Wd.Ok.aux (o : κ.Ok K) {p : Addr} {u : HO} (hp : κ.H p = none) : Wd.Ok K ⟨κ.I, upd κ.H p u, κ.th, κ.c⟩ where
  ex := o.ex.trans (Ex.new hp)
  len := o.len
  nd := o.nd
  off := o.off
  cl := fun n a k h1 h2 => (o.cl n a k h1 h2).le (Wd.aux_le hp) (by
    show upd κ.H p u a = κ.H a
    have : a ≠ p := fun z => by subst z; exact o.thH (mem_of_at h1) hp
    rw [upd_ne this])
/-- a new cell -/
theorem Wd.cell_le {p : Addr} {u : HO} {k : Cell} (hp : κ.H p = none) : κ.le ⟨κ.I, upd κ.H p u, κ.th ++ [p], κ.c ++ [k]⟩ where
  ii := Ex.refl _
  th := fun n a h => by
    show (κ.th ++ [p])[n]? = some a
    rw [List.getElem?_append_left (List.getElem?_eq_some_iff.mp h).1]; exact h
  fr := fun a x h _ => by
    show upd κ.H p u a = _
    rw [upd_ne (ne_of_none h hp)]; exact h
  hd := fun a h => by
    show upd κ.H p u a ≠ none
    have : a ≠ p := fun z => by subst z; exact h hp
    rw [upd_ne this]; exact h
  nw := fun _ _ n => n
  nt := fun a h n => by
    rcases List.mem_append.mp h with h | h
    · exact absurd h n
    · have : a = p := by simpa using h
      subst this; exact hp
theorem Wd.Ok.cell (o : κ.Ok K) {p : Addr} {u : HO} {k : Cell} (hp : κ.H p = none) (hk : CellOk K κ.I (upd κ.H p u) (κ.th ++ [p]) p k) : Wd.Ok K ⟨κ.I, upd κ.H p u, κ.th ++ [p], κ.c ++ [k]⟩ where
  ex := o.ex.trans (Ex.new hp)
  len := by
    show (κ.th ++ [p]).length = (κ.c ++ [k]).length
    rw [List.length_append, List.length_append, o.len]; rfl
  nd := by
    show (κ.th ++ [p]).Nodup
    refine List.nodup_append.mpr ⟨o.nd, by simp, fun a ha b hb => ?_⟩
    have : b = p := by simpa using hb
    subst this
    intro z; subst z; exact o.thH ha hp
  off := fun a h => by
    rcases List.mem_append.mp h with h | h
    · exact o.off a h
    · have : a = p := by simpa using h
      subst this
      show κ.I a = none
      cases q : κ.I a with
      | none => rfl
      | some x => rw [o.ex _ _ q] at hp; cases hp
  cl := fun n a k' h1 h2 => by
    have g1 : (κ.th ++ [p])[n]? = some a := h1
    have g2 : (κ.c ++ [k])[n]? = some k' := h2
    clear h1 h2
    by_cases hn : n < κ.th.length
    · rw [List.getElem?_append_left hn] at g1
      rw [List.getElem?_append_left (by rw [← o.len]; exact hn)] at g2
      refine (o.cl n a k' g1 g2).le (Wd.cell_le (k := k) hp) ?_
      show upd κ.H p u a = κ.H a
      have : a ≠ p := fun z => by subst z; exact o.thH (List.mem_of_getElem? g1) hp
      rw [upd_ne this]
    · have hl := (List.getElem?_eq_some_iff.mp g1).1
      rw [List.length_append, List.length_singleton] at hl
      have e : n = κ.th.length := by omega
      subst e
      rw [List.getElem?_append_right (Nat.le_refl _), Nat.sub_self] at g1
      rw [List.getElem?_append_right (by rw [o.len]; exact Nat.le_refl _), o.len, Nat.sub_self] at g2
      have : p = a := by simpa using g1
      subst this
      have : k = k' := by simpa using g2
      subst this
      exact hk
/-- a cell is written -/
theorem Wd.put_le (o : κ.Ok K) {n : Nat} {p : Addr} {u : HO} {k : Cell} (h : κ.th[n]? = some p) : κ.le ⟨κ.I, upd κ.H p u, κ.th, κ.c.set n k⟩ where
  ii := Ex.refl _
  th := fun _ _ h => h
  fr := fun a x h1 h2 => by
    show upd κ.H p u a = _
    have : a ≠ p := fun z => by subst z; exact h2 (mem_of_at h)
    rw [upd_ne this]; exact h1
  hd := fun a h1 => by
    show upd κ.H p u a ≠ none
    by_cases e : a = p
    · subst e; rw [upd_same]; intro z; cases z
    · rw [upd_ne e]; exact h1
  nw := fun _ _ n => n
  nt := fun a h n => absurd h n
theorem Wd.Ok.put (o : κ.Ok K) {n : Nat} {p : Addr} {u : HO} {k : Cell} (h : κ.th[n]? = some p) (hk : CellOk K κ.I (upd κ.H p u) κ.th p k) : Wd.Ok K ⟨κ.I, upd κ.H p u, κ.th, κ.c.set n k⟩ where
  ex := fun a x h1 => by
    show upd κ.H p u a = _
    have : a ≠ p := fun z => by subst z; rw [o.off _ (mem_of_at h)] at h1; cases h1
    rw [upd_ne this]; exact o.ex _ _ h1
  len := by
    show κ.th.length = (κ.c.set n k).length
    rw [List.length_set]; exact o.len
  nd := o.nd
  off := o.off
  cl := fun m a k' h1 h2 => by
    have h2 : (κ.c.set n k)[m]? = some k' := h2
    by_cases e : n = m
    · subst e
      rw [h] at h1
      have : p = a := by simpa using h1
      subst this
      have hl : n < κ.c.length := by rw [← o.len]; exact (List.getElem?_eq_some_iff.mp h).1
      rw [List.getElem?_set_self hl] at h2
      have : k = k' := by simpa using h2
      subst this
      exact hk
    · rw [List.getElem?_set_ne e] at h2
      refine (o.cl m a k' h1 h2).le (Wd.put_le (k := k) o h) ?_
      show upd κ.H p u a = κ.H a
      have : a ≠ p := fun z => by
        subst z
        obtain ⟨l1, e1⟩ := List.getElem?_eq_some_iff.mp h
        obtain ⟨l2, e2⟩ := List.getElem?_eq_some_iff.mp h1
        exact e ((List.getElem_inj o.nd).mp (e1.trans e2.symm))
      rw [upd_ne this]
end
end WL
/-! The judgements over plain data, the rules of expressions. -/
namespace WL
open PySem PySem.Spec PyProof.Rows L2
/-! ### the weakest readings -/
def wE (X : Cx) (e : Expr) : TE := fun σ H Q => ∀ (pins : List (Addr × Obj)) (s : Shared), Inv X pins σ H s → wpAny (model X.prog X.w) X.A (eval e X.env) (EP X pins σ Q) X.xe s
def wT (X : Cx) (e : Expr) : TT := fun σ H Q => ∀ (pins : List (Addr × Obj)) (s : Shared), Inv X pins σ H s → wpAny (model X.prog X.w) X.A (isTrue e X.env (eval e X.env)) (TP X pins σ Q) X.xe s
def wW (X : Cx) (e : Expr) : TT := fun σ H Q => ∀ (whole : Sem Value) (pins : List (Addr × Obj)) (s : Shared), Inv X pins σ H s → wpAny (model X.prog X.w) X.A (isTrue e X.env whole) (TP X pins σ Q) X.xe s
def wA (X : Cx) (es : List Expr) : TA := fun σ H Q => ∀ (pos : Pos) (pins : List (Addr × Obj)) (s : Shared), Inv X pins σ H s → wpAny (model X.prog X.w) X.A (spliced (backTo pos (starEach es X.env))) (AP X pins σ Q) X.xe s
def wS (X : Cx) (st : Stmt) : TS := fun D σ H => ∀ (pins : List (Addr × Obj)) (s : Shared), Inv X pins σ H s → wpAny (model X.prog X.w) X.A (exec st X.env) (SP X pins D) X.xe s
def wSs (X : Cx) (sts : List Stmt) : TS := fun D σ H => ∀ (pins : List (Addr × Obj)) (s : Shared), Inv X pins σ H s → wpAny (model X.prog X.w) X.A (execs sts X.env) (SP X pins D) X.xe s
def wG (X : Cx) (tg : Expr) : TG := fun v σ H Q => ∀ (pins : List (Addr × Obj)) (s : Shared) (u : Value), Inv X pins σ H s → RelV v u → wpAny (model X.prog X.w) X.A (assign tg X.env u) (fun _ s' => ∃ σ' H', Inv X pins σ' H' s' ∧ Q σ' H') X.xe s
def wGs (X : Cx) (ts : List Expr) : TGs := fun vs σ H Q => ∀ (pins : List (Addr × Obj)) (s : Shared) (us : List Value), Inv X pins σ H s → Vals vs us → wpAny (model X.prog X.w) X.A (assignInOrder ((assignEach ts X.env).map (·.2)) us) (fun _ s' => ∃ σ' H', Inv X pins σ' H' s' ∧ Q σ' H') X.xe s
def wO (X : Cx) (f : Value → Value → Sem Value) : R2 := fun x y H Q => ∀ (pins : List (Addr × Obj)) (s : Shared) (σ : L2.St) (v u : Value), Inv X pins σ H s → RelV x v → RelV y u → wpAny (model X.prog X.w) X.A (f v u) (EP X pins σ Q) X.xe s
def wU (X : Cx) (f : Value → Sem Value) : V → Hp → VK → Prop := fun x H Q => ∀ (pins : List (Addr × Obj)) (s : Shared) (σ : L2.St) (v : Value), Inv X pins σ H s → RelV x v → wpAny (model X.prog X.w) X.A (f v) (EP X pins σ Q) X.xe s
def wC (X : Cx) (f : Value) : List V → Hp → VK → Prop := fun xs H Q => ∀ (pins : List (Addr × Obj)) (s : Shared) (σ : L2.St) (us : List Value), Inv X pins σ H s → Vals xs us → wpAny (model X.prog X.w) X.A (call f us) (EP X pins σ Q) X.xe s
def wIx (X : Cx) : R2 := fun x y H Q => ∀ (value slice : Expr) (pins : List (Addr × Obj)) (s : Shared) (σ : L2.St) (v u : Value), Inv X pins σ H s → RelV x v → RelV y u →
    subscripted slice false v u = operate [v, u] (getItem v u) → wpAny (model X.prog X.w) X.A (subscriptTail value slice v u) (EP X pins σ Q) X.xe s
def wM (X : Cx) (id : String) : V → List V → Hp → VK → Prop := fun x xs H Q => ∀ (pins : List (Addr × Obj)) (s : Shared) (σ : L2.St) (v : Value) (us : List Value), Inv X pins σ H s → RelV x v → Vals xs us → wpAny (model X.prog X.w) X.A (call (.builtin id) (v :: us)) (EP X pins σ Q) X.xe s
def wTru (X : Cx) : V → Hp → (Bool → Hp → Prop) → Prop := fun x H Q => ∀ (pins : List (Addr × Obj)) (s : Shared) (σ : L2.St) (v : Value), Inv X pins σ H s → RelV x v → wpAny (model X.prog X.w) X.A (truthy v) (TP X pins σ Q) X.xe s
section
variable {X : Cx}
theorem pe_w {e : Expr} : PE X e (wE X e) := ⟨fun pins s σ H Q I h => h pins s I⟩
theorem pt_w {e : Expr} : PT X e (wT X e) := ⟨fun pins s σ H Q I h => h pins s I⟩
theorem pw_w {e : Expr} : PW X e (wW X e) := ⟨fun wh pins s σ H Q I h => h wh pins s I⟩
theorem pa_w {es : List Expr} : PA X es (wA X es) := ⟨fun pos pins s σ H Q I h => h pos pins s I⟩
theorem ps_w {st : Stmt} : PS X st (wS X st) := ⟨fun pins s σ H D I h => h pins s I⟩
theorem pss_w {sts : List Stmt} : PSs X sts (wSs X sts) := ⟨fun pins s σ H D I h => h pins s I⟩
theorem op_w {f : Value → Value → Sem Value} : OpR X f (wO X f) := fun pins s σ H x y v u Q I rx ry h => h pins s σ v u I rx ry
theorem un_w {f : Value → Sem Value} : UnR X f (wU X f) := fun pins s σ H x v Q I rx h => h pins s σ v I rx
theorem call_w {f : Value} : CallR X f (wC X f) := fun pins s σ H xs us Q I r h => h pins s σ us I r
theorem ix_w : IxR X (wIx X) := fun value slice pins s σ H x y v u Q I rx ry h hs => h value slice pins s σ v u I rx ry hs
theorem mt_w {id : String} : MtR X id (wM X id) := fun pins s σ H x xs v us Q I rx rs h => h pins s σ v us I rx rs
theorem PE.w {e : Expr} {t : TE} {σ : L2.St} {H : Hp} {Q : VK} (h : PE X e t) (q : t σ H Q) : wE X e σ H Q := fun pins s I => h.run pins s σ H Q I q
theorem PT.w {e : Expr} {t : TT} {σ : L2.St} {H : Hp} {Q : Bool → Hp → Prop} (h : PT X e t) (q : t σ H Q) : wT X e σ H Q := fun pins s I => h.run pins s σ H Q I q
theorem PW.w {e : Expr} {t : TT} {σ : L2.St} {H : Hp} {Q : Bool → Hp → Prop} (h : PW X e t) (q : t σ H Q) : wW X e σ H Q := fun wh pins s I => h.run wh pins s σ H Q I q
theorem PA.w {es : List Expr} {t : TA} {σ : L2.St} {H : Hp} {Q : List V → Hp → Prop} (h : PA X es t) (q : t σ H Q) : wA X es σ H Q := fun pos pins s I => h.run pos pins s σ H Q I q
theorem PS.w {st : Stmt} {t : TS} {σ : L2.St} {H : Hp} {D : Ends} (h : PS X st t) (q : t D σ H) : wS X st D σ H := fun pins s I => h.run pins s σ H D I q
theorem PSs.w {sts : List Stmt} {t : TS} {σ : L2.St} {H : Hp} {D : Ends} (h : PSs X sts t) (q : t D σ H) : wSs X sts D σ H := fun pins s I => h.run pins s σ H D I q
theorem PG.w {tg : Expr} {t : TG} {v : V} {σ : L2.St} {H : Hp} {Q : L2.St → Hp → Prop} (h : PG X tg t) (q : t v σ H Q) : wG X tg v σ H Q := fun pins s u I r => h.run pins s σ H v u Q I r q
theorem PGs.w {ts : List Expr} {t : TGs} {vs : List V} {σ : L2.St} {H : Hp} {Q : L2.St → Hp → Prop} (h : PGs X ts t) (q : t vs σ H Q) : wGs X ts vs σ H Q := fun pins s us I r => h.run pins s σ H vs us Q I r q
theorem OpR.w {f : Value → Value → Sem Value} {r : R2} {x y : V} {H : Hp} {Q : VK} (h : OpR X f r) (q : r x y H Q) : wO X f x y H Q := fun pins s σ v u I rx ry => h pins s σ H x y v u Q I rx ry q
theorem UnR.w {f : Value → Sem Value} {r : V → Hp → VK → Prop} {x : V} {H : Hp} {Q : VK} (h : UnR X f r) (q : r x H Q) : wU X f x H Q := fun pins s σ v I rx => h pins s σ H x v Q I rx q
theorem CallR.w {f : Value} {r : List V → Hp → VK → Prop} {xs : List V} {H : Hp} {Q : VK} (h : CallR X f r) (q : r xs H Q) : wC X f xs H Q := fun pins s σ us I rs => h pins s σ H xs us Q I rs q
theorem IxR.w {r : R2} {x y : V} {H : Hp} {Q : VK} (h : IxR X r) (q : r x y H Q) : wIx X x y H Q := fun value slice pins s σ v u I rx ry hs => h value slice pins s σ H x y v u Q I rx ry q hs
theorem MtR.w {id : String} {r : V → List V → Hp → VK → Prop} {x : V} {xs : List V} {H : Hp} {Q : VK} (h : MtR X id r) (q : r x xs H Q) : wM X id x xs H Q := fun pins s σ v us I rx rs => h pins s σ H x xs v us Q I rx rs q
theorem TruR.w {r : V → Hp → (Bool → Hp → Prop) → Prop} {x : V} {H : Hp} {Q : Bool → Hp → Prop} (h : TruR X r) (q : r x H Q) : wTru X x H Q := fun pins s σ v I rx => h pins s σ H x v Q I rx q
end
/-! ### the judgements -/
structure Exn where
  C : Addr
  ns : List Str
  l : List D
def RX (K : PySem.W.Frag) (κ : Wd) (x : Exn) (C : Value) (d : Option Addr) : Prop :=
  C = .ref x.C ∧ ((x.ns = [] ∧ x.l = [] ∧ d = none) ∨ ∃ a vs, d = some a ∧ κ.H a = some (.xd (x.ns.zip vs)) ∧ x.ns.length = vs.length ∧ Rps K κ.I x.l vs)
/-- a context: what is wanted of an exception -/
structure Cy where
  X : Cx
  Wx : WX
  tk : Takes X Wx
  po : PassesOwn (model X.prog X.w) X.A X.env X.xe
  Qx : Exn → Ρ → List Cell → Prop
abbrev KQ := W → List Cell → Prop
/-- without a value: exceptions alone -/
structure GoX (Y : Cy) (κ : Wd) (σ : L2.St) (ρ : Ρ) : Prop where
  ex : ∀ x C d κ', κ.le κ' → κ'.Ok Y.X.K → RX Y.X.K κ' x C d → Y.Qx x ρ κ'.c → Y.Wx C d σ κ'.H
def GoT (Y : Cy) (κ : Wd) (Q' : Bool → Hp → Prop) (Q : Bool → List Cell → Prop) : Prop := ∀ b κ', κ.le κ' → κ'.Ok Y.X.K → Q b κ'.c → Q' b κ'.H
def GoV (Y : Cy) (κ : Wd) (Q' : VK) (Q : KQ) : Prop := ∀ v w κ', κ.le κ' → κ'.Ok Y.X.K → RW Y.X.K κ'.I κ'.th w v → Q w κ'.c → Q' v κ'.H
def GoA (Y : Cy) (κ : Wd) (Q' : List V → Hp → Prop) (Q : List W → List Cell → Prop) : Prop := ∀ vs ws κ', κ.le κ' → κ'.Ok Y.X.K → RWs Y.X.K κ'.I κ'.th ws vs → Q ws κ'.c → Q' vs κ'.H
def WE (Y : Cy) (ρ : Ρ) (c : List Cell) (e : Expr) (Q : KQ) : Prop := ∀ κ σ, κ.c = c → κ.Ok Y.X.K → REnv Y.X.K κ σ ρ → GoX Y κ σ ρ → ∀ Q', GoV Y κ Q' Q → wE Y.X e σ κ.H Q'
def WT (Y : Cy) (ρ : Ρ) (c : List Cell) (e : Expr) (Q : Bool → List Cell → Prop) : Prop := ∀ κ σ, κ.c = c → κ.Ok Y.X.K → REnv Y.X.K κ σ ρ → GoX Y κ σ ρ → ∀ Q', GoT Y κ Q' Q → wT Y.X e σ κ.H Q'
def WW (Y : Cy) (ρ : Ρ) (c : List Cell) (e : Expr) (Q : Bool → List Cell → Prop) : Prop := ∀ κ σ, κ.c = c → κ.Ok Y.X.K → REnv Y.X.K κ σ ρ → GoX Y κ σ ρ → ∀ Q', GoT Y κ Q' Q → wW Y.X e σ κ.H Q'
def WA (Y : Cy) (ρ : Ρ) (c : List Cell) (es : List Expr) (Q : List W → List Cell → Prop) : Prop := ∀ κ σ, κ.c = c → κ.Ok Y.X.K → REnv Y.X.K κ σ ρ → GoX Y κ σ ρ → ∀ Q', GoA Y κ Q' Q → wA Y.X es σ κ.H Q'
/-- operations upon values -/
def WO (Y : Cy) (f : Value → Value → Sem Value) (w1 w2 : W) (c : List Cell) (Q : KQ) : Prop := ∀ κ x y, κ.c = c → κ.Ok Y.X.K → RW Y.X.K κ.I κ.th w1 x → RW Y.X.K κ.I κ.th w2 y → ∀ Q', GoV Y κ Q' Q → wO Y.X f x y κ.H Q'
def WU (Y : Cy) (f : Value → Sem Value) (w : W) (c : List Cell) (Q : KQ) : Prop := ∀ κ x, κ.c = c → κ.Ok Y.X.K → RW Y.X.K κ.I κ.th w x → ∀ Q', GoV Y κ Q' Q → wU Y.X f x κ.H Q'
def WC (Y : Cy) (f : Value) (ws : List W) (c : List Cell) (Q : KQ) : Prop := ∀ κ xs, κ.c = c → κ.Ok Y.X.K → RWs Y.X.K κ.I κ.th ws xs → ∀ Q', GoV Y κ Q' Q → wC Y.X f xs κ.H Q'
def WIx (Y : Cy) (w1 w2 : W) (c : List Cell) (Q : KQ) : Prop := ∀ κ x y, κ.c = c → κ.Ok Y.X.K → RW Y.X.K κ.I κ.th w1 x → RW Y.X.K κ.I κ.th w2 y → ∀ Q', GoV Y κ Q' Q → wIx Y.X x y κ.H Q'
def WM (Y : Cy) (id : String) (w : W) (ws : List W) (c : List Cell) (Q : KQ) : Prop := ∀ κ x xs, κ.c = c → κ.Ok Y.X.K → RW Y.X.K κ.I κ.th w x → RWs Y.X.K κ.I κ.th ws xs → ∀ Q', GoV Y κ Q' Q → wM Y.X id x xs κ.H Q'
section
variable {Y : Cy} {ρ : Ρ} {c : List Cell} {κ κ1 : Wd} {σ : L2.St} {Q : KQ} {QT : Bool → List Cell → Prop}
theorem GoX.le (g : GoX Y κ σ ρ) (e : κ.le κ1) : GoX Y κ1 σ ρ := ⟨fun x C d κ' l => g.ex x C d κ' (e.trans l)⟩
theorem GoV.le {Q' : VK} (g : GoV Y κ Q' Q) (e : κ.le κ1) : GoV Y κ1 Q' Q := fun v w κ' l => g v w κ' (e.trans l)
theorem GoT.le {Q' : Bool → Hp → Prop} (g : GoT Y κ Q' QT) (e : κ.le κ1) : GoT Y κ1 Q' QT := fun b κ' l => g b κ' (e.trans l)
theorem GoA.le {Q' : List V → Hp → Prop} {QA : List W → List Cell → Prop} (g : GoA Y κ Q' QA) (e : κ.le κ1) : GoA Y κ1 Q' QA := fun vs ws κ' l => g vs ws κ' (e.trans l)
/-- an expression, then more -/
theorem WE.bind {e : Expr} {R : VK} (h : WE Y ρ c e Q) (hc : κ.c = c) (o : κ.Ok Y.X.K) (r : REnv Y.X.K κ σ ρ) (g : GoX Y κ σ ρ)
    (k : ∀ v w κ', κ.le κ' → κ'.Ok Y.X.K → REnv Y.X.K κ' σ ρ → GoX Y κ' σ ρ → RW Y.X.K κ'.I κ'.th w v → Q w κ'.c → R v κ'.H) : wE Y.X e σ κ.H R :=
  h κ σ hc o r g R fun v w κ' l o' rw q => k v w κ' l o' (r.le l) (g.le l) rw q
theorem WT.bind {e : Expr} {R : Bool → Hp → Prop} (h : WT Y ρ c e QT) (hc : κ.c = c) (o : κ.Ok Y.X.K) (r : REnv Y.X.K κ σ ρ) (g : GoX Y κ σ ρ)
    (k : ∀ b κ', κ.le κ' → κ'.Ok Y.X.K → REnv Y.X.K κ' σ ρ → GoX Y κ' σ ρ → QT b κ'.c → R b κ'.H) : wT Y.X e σ κ.H R :=
  h κ σ hc o r g R fun b κ' l o' q => k b κ' l o' (r.le l) (g.le l) q
theorem WW.bind {e : Expr} {R : Bool → Hp → Prop} (h : WW Y ρ c e QT) (hc : κ.c = c) (o : κ.Ok Y.X.K) (r : REnv Y.X.K κ σ ρ) (g : GoX Y κ σ ρ)
    (k : ∀ b κ', κ.le κ' → κ'.Ok Y.X.K → REnv Y.X.K κ' σ ρ → GoX Y κ' σ ρ → QT b κ'.c → R b κ'.H) : wW Y.X e σ κ.H R :=
  h κ σ hc o r g R fun b κ' l o' q => k b κ' l o' (r.le l) (g.le l) q
theorem WA.bind {es : List Expr} {R : List V → Hp → Prop} {QA : List W → List Cell → Prop} (h : WA Y ρ c es QA) (hc : κ.c = c) (o : κ.Ok Y.X.K) (r : REnv Y.X.K κ σ ρ) (g : GoX Y κ σ ρ)
    (k : ∀ vs ws κ', κ.le κ' → κ'.Ok Y.X.K → REnv Y.X.K κ' σ ρ → GoX Y κ' σ ρ → RWs Y.X.K κ'.I κ'.th ws vs → QA ws κ'.c → R vs κ'.H) : wA Y.X es σ κ.H R :=
  h κ σ hc o r g R fun v w κ' l o' rw q => k v w κ' l o' (r.le l) (g.le l) rw q
theorem WE.mono {e : Expr} {Q2 : KQ} (h : WE Y ρ c e Q) (k : ∀ w c', Q w c' → Q2 w c') : WE Y ρ c e Q2 := fun κ σ hc o r g Q' G => h κ σ hc o r g Q' fun v w κ' l o' rw q => G v w κ' l o' rw (k w κ'.c q)
theorem WT.mono {e : Expr} {Q2 : Bool → List Cell → Prop} (h : WT Y ρ c e QT) (k : ∀ b c', QT b c' → Q2 b c') : WT Y ρ c e Q2 := fun κ σ hc o r g Q' G => h κ σ hc o r g Q' fun b κ' l o' q => G b κ' l o' (k b κ'.c q)
/-! ### names, constants -/
theorem ix_of {N : List Str} {x : Str} {i : Nat} (h : N.idxOf? x = some i) : N[i]? = some x := by
  unfold List.idxOf? at h
  obtain ⟨hl, h1, _⟩ := List.findIdx?_eq_some_iff_getElem.mp h
  rw [List.getElem?_eq_getElem hl, eq_of_beq h1]
theorem we_name {i : Nat} {x : Str} {w : W} {pos : Pos} (hN : Y.X.N.idxOf? x = some i) (hr : ρ[i]? = some (some w)) (q : Q w c) (hv : Vis Y.X.env.scope x := by first | exact Or.inl rfl | exact Or.inr (Or.inl rfl) | exact Or.inr (Or.inr rfl))
    (hd : (x == ("__debug__" : Str)) = false := by decide) (hcd : (x == ("__classdict__" : Str)) = false := by decide) : WE Y ρ c (.Name x pos) Q := fun κ σ hc o r g Q' G => by
  obtain ⟨v, h1, h2⟩ := r.at_ i w hr
  exact PE.w (pe_var (ix_of hN) hv hd hcd) ⟨v, h1, G v w κ (.refl _) o h2 (by rw [hc]; exact q)⟩
theorem we_int {i : Int} {j : Nat} {pos : Pos} (q : Q (.im (.int i)) c) : WE Y ρ c (.Constant (.int i) j pos) Q := fun κ σ hc o r g Q' G => PE.w pe_int (G (.int i) (.im (.int i)) κ (.refl _) o rfl (by rw [hc]; exact q))
theorem we_bl {i : Bool} {j : Nat} {pos : Pos} (q : Q (.im (.bl i)) c) : WE Y ρ c (.Constant (.bool i) j pos) Q := fun κ σ hc o r g Q' G => PE.w pe_bl (G (.bl i) (.im (.bl i)) κ (.refl _) o rfl (by rw [hc]; exact q))
theorem we_non {j : Nat} {pos : Pos} (q : Q (.im .non) c) : WE Y ρ c (.Constant .none j pos) Q := fun κ σ hc o r g Q' G => PE.w pe_non (G .non (.im .non) κ (.refl _) o rfl (by rw [hc]; exact q))
theorem we_str {x : Str} {j : Nat} {pos : Pos} (q : Q (.im (.str x)) c) : WE Y ρ c (.Constant (.str x) j pos) Q := fun κ σ hc o r g Q' G => PE.w pe_str (G (.str x) (.im (.str x)) κ (.refl _) o rfl (by rw [hc]; exact q))
/-- a module's constant: mg tells its value, which is data whatever the heap -/
theorem we_glob {x : Str} {v : V} {u : Value} {d : D} {pos : Pos} (hg : Gl Y.X x) (hm : Y.X.mg x = some u) (r : RelV v u) (hd : ∀ I, Rp Y.X.K I d v) (q : Q (.im d) c) (hdb : (x == ("__debug__" : Str)) = false := by decide) : WE Y ρ c (.Name x pos) Q := fun κ σ hc o _ g Q' G =>
  PE.w (pe_glob hg hm r hdb) (G v (.im d) κ (.refl _) o (hd _) (by rw [hc]; exact q))
/-! ### operators -/
theorem we_bin {op : Operator} {a b : Expr} {pos : Pos} (h : WE Y ρ c a fun w1 c1 => WE Y ρ c1 b fun w2 c2 => WO Y (binaryOp op) w1 w2 c2 Q) : WE Y ρ c (.BinOp a op b pos) Q := fun κ σ hc o r g Q' G =>
  PE.w (pe_op op_w pe_w pe_w) (h.bind hc o r g fun v1 w1 κ1 l1 o1 r1 g1 rw1 q1 => q1.bind rfl o1 r1 g1 fun v2 w2 κ2 l2 o2 r2 g2 rw2 q2 => q2 κ2 v1 v2 rfl o2 (rw1.le l2) rw2 Q' (GoV.le G (l1.trans l2)))
theorem we_un {op : UnaryOp} {a : Expr} {pos : Pos} (h : WE Y ρ c a fun w1 c1 => WU Y (unaryOp op) w1 c1 Q) : WE Y ρ c (.UnaryOp op a pos) Q := fun κ σ hc o r g Q' G =>
  PE.w (pe_un un_w pe_w) (h.bind hc o r g fun v1 w1 κ1 l1 o1 r1 g1 rw1 q1 => q1 κ1 v1 rfl o1 rw1 Q' (GoV.le G l1))
theorem we_cmp {op : CmpOp} {a b : Expr} {pos : Pos} (h : WE Y ρ c a fun w1 c1 => WE Y ρ c1 b fun w2 c2 => WO Y (compareOp op) w1 w2 c2 Q) (hm : behindInMarks op b = false := by first | exact nomark _ | rfl) : WE Y ρ c (.Compare a [op] [b] pos) Q := fun κ σ hc o r g Q' G =>
  PE.w (pe_cmpR op_w pe_w pe_w hm) (h.bind hc o r g fun v1 w1 κ1 l1 o1 r1 g1 rw1 q1 => q1.bind rfl o1 r1 g1 fun v2 w2 κ2 l2 o2 r2 g2 rw2 q2 => q2 κ2 v1 v2 rfl o2 (rw1.le l2) rw2 Q' (GoV.le G (l1.trans l2)))
theorem wt_cmp {op : CmpOp} {a b : Expr} {pos : Pos} (h : WE Y ρ c a fun w1 c1 => WE Y ρ c1 b fun w2 c2 => WO Y (compareOp op) w1 w2 c2 fun w c3 => ∃ k, w = .im (.bl k) ∧ QT k c3) (hm : behindInMarks op b = false := by first | exact nomark _ | rfl) : WT Y ρ c (.Compare a [op] [b] pos) QT := fun κ σ hc o r g Q' G =>
  PT.w (pt_cmpR op_w pe_w pe_w hm) (h.bind hc o r g fun v1 w1 κ1 l1 o1 r1 g1 rw1 q1 => q1.bind rfl o1 r1 g1 fun v2 w2 κ2 l2 o2 r2 g2 rw2 q2 => q2 κ2 v1 v2 rfl o2 (rw1.le l2) rw2 _ fun v w κ' l' o' rw' ⟨k, e, q⟩ => by
    subst e
    exact ⟨k, rw', G k κ' ((l1.trans l2).trans l') o' q⟩)
/-- a value that is True or False, as a test -/
theorem wt_val {e : Expr} (h : WE Y ρ c e fun w c1 => ∃ k, w = .im (.bl k) ∧ QT k c1) (he : ∀ whole, isTrue e Y.X.env whole = (do let v ← whole; standAt e.pos; holding [v] (truthy v)) := by intro _; rfl) : WT Y ρ c e QT := fun κ σ hc o r g Q' G =>
  PT.w (pt_val pe_w he) (h.bind hc o r g fun v1 w1 κ1 l1 o1 r1 g1 rw1 ⟨k, e, q⟩ => by
    subst e
    exact ⟨k, rw1, G k κ1 l1 o1 q⟩)
theorem wt_not {a : Expr} {pos : Pos} (h : WT Y ρ c a fun b c1 => QT (!b) c1) : WT Y ρ c (.UnaryOp .Not a pos) QT := fun κ σ hc o r g Q' G =>
  PT.w (pt_not pt_w) (h.bind hc o r g fun b κ1 l1 o1 r1 g1 q1 => G (!b) κ1 l1 o1 q1)
theorem wt_and {es : List Expr} {pos : Pos} (h : WW Y ρ c (.BoolOp .And es pos) QT) : WT Y ρ c (.BoolOp .And es pos) QT := fun κ σ hc o r g Q' G => PT.w (PW.pt pw_w) (h κ σ hc o r g Q' G)
theorem wt_or {es : List Expr} {pos : Pos} (h : WW Y ρ c (.BoolOp .Or es pos) QT) : WT Y ρ c (.BoolOp .Or es pos) QT := fun κ σ hc o r g Q' G => PT.w (PW.pt pw_w) (h κ σ hc o r g Q' G)
theorem ww_and1 {a : Expr} {pos : Pos} (h : WT Y ρ c a QT) : WW Y ρ c (.BoolOp .And [a] pos) QT := fun κ σ hc o r g Q' G => PW.w (pw_and1 pt_w) (h κ σ hc o r g Q' G)
theorem ww_or1 {a : Expr} {pos : Pos} (h : WT Y ρ c a QT) : WW Y ρ c (.BoolOp .Or [a] pos) QT := fun κ σ hc o r g Q' G => PW.w (pw_or1 pt_w) (h κ σ hc o r g Q' G)
theorem ww_and {a b : Expr} {rest : List Expr} {pos : Pos} (h : WT Y ρ c a fun k c1 => if k = true then WW Y ρ c1 (.BoolOp .And (b :: rest) pos) QT else QT false c1) : WW Y ρ c (.BoolOp .And (a :: b :: rest) pos) QT := fun κ σ hc o r g Q' G =>
  PW.w (pw_and pt_w pw_w) (h.bind hc o r g fun k κ1 l1 o1 r1 g1 q1 => by
    cases k with
    | true => exact q1 κ1 σ rfl o1 r1 g1 Q' (GoT.le G l1)
    | false => exact G false κ1 l1 o1 q1)
theorem ww_or {a b : Expr} {rest : List Expr} {pos : Pos} (h : WT Y ρ c a fun k c1 => if k = true then QT true c1 else WW Y ρ c1 (.BoolOp .Or (b :: rest) pos) QT) : WW Y ρ c (.BoolOp .Or (a :: b :: rest) pos) QT := fun κ σ hc o r g Q' G =>
  PW.w (pw_or pt_w pw_w) (h.bind hc o r g fun k κ1 l1 o1 r1 g1 q1 => by
    cases k with
    | false => exact q1 κ1 σ rfl o1 r1 g1 Q' (GoT.le G l1)
    | true => exact G true κ1 l1 o1 q1)
/-- and, or, not as values: bools -/
theorem we_one {op : BoolOp} {a : Expr} {pos : Pos} (h : WE Y ρ c a Q) : WE Y ρ c (.BoolOp op [a] pos) Q := fun κ σ hc o r g Q' G => PE.w (pe_one pe_w) (h κ σ hc o r g Q' G)
theorem we_and {a b : Expr} {rest : List Expr} {pos : Pos} (h : WE Y ρ c a fun w c1 => ∃ k, w = .im (.bl k) ∧ if k = true then WE Y ρ c1 (.BoolOp .And (b :: rest) pos) Q else Q (.im (.bl false)) c1) : WE Y ρ c (.BoolOp .And (a :: b :: rest) pos) Q := fun κ σ hc o r g Q' G =>
  PE.w (pe_and pe_w pe_w) (h.bind hc o r g fun v1 w1 κ1 l1 o1 r1 g1 rw1 ⟨k, e, q1⟩ => by
    subst e
    refine ⟨k, rw1, ?_⟩
    cases k with
    | true => exact q1 κ1 σ rfl o1 r1 g1 Q' (GoV.le G l1)
    | false => exact G (.bl false) (.im (.bl false)) κ1 l1 o1 rfl q1)
theorem we_or {a b : Expr} {rest : List Expr} {pos : Pos} (h : WE Y ρ c a fun w c1 => ∃ k, w = .im (.bl k) ∧ if k = true then Q (.im (.bl true)) c1 else WE Y ρ c1 (.BoolOp .Or (b :: rest) pos) Q) : WE Y ρ c (.BoolOp .Or (a :: b :: rest) pos) Q := fun κ σ hc o r g Q' G =>
  PE.w (pe_or pe_w pe_w) (h.bind hc o r g fun v1 w1 κ1 l1 o1 r1 g1 rw1 ⟨k, e, q1⟩ => by
    subst e
    refine ⟨k, rw1, ?_⟩
    cases k with
    | false => exact q1 κ1 σ rfl o1 r1 g1 Q' (GoV.le G l1)
    | true => exact G (.bl true) (.im (.bl true)) κ1 l1 o1 rfl q1)
theorem we_not {a : Expr} {pos : Pos} (h : WE Y ρ c a fun w c1 => ∃ k, w = .im (.bl k) ∧ Q (.im (.bl (!k))) c1) : WE Y ρ c (.UnaryOp .Not a pos) Q := fun κ σ hc o r g Q' G =>
  PE.w (pe_not pe_w) (h.bind hc o r g fun v1 w1 κ1 l1 o1 r1 g1 rw1 ⟨k, e, q1⟩ => by
    subst e
    exact ⟨k, rw1, G (.bl (!k)) (.im (.bl (!k))) κ1 l1 o1 rfl q1⟩)
theorem we_ifExp {t a b : Expr} {pos : Pos} (h : WT Y ρ c t fun k c1 => if k = true then WE Y ρ c1 a Q else WE Y ρ c1 b Q) : WE Y ρ c (.IfExp t a b pos) Q := fun κ σ hc o r g Q' G =>
  PE.w (pe_ifExp pt_w pe_w pe_w) (h.bind hc o r g fun k κ1 l1 o1 r1 g1 q1 => by
    cases k with
    | true => exact q1 κ1 σ rfl o1 r1 g1 Q' (GoV.le G l1)
    | false => exact q1 κ1 σ rfl o1 r1 g1 Q' (GoV.le G l1))
/-- a op b op' d -/
theorem we_chain {op op' : CmpOp} {a b d : Expr} {pos : Pos} (h : WE Y ρ c a fun w1 c1 => WE Y ρ c1 b fun w2 c2 => WO Y (compareOp op) w1 w2 c2 fun w c3 => ∃ k, w = .im (.bl k) ∧ if k = true then WE Y ρ c3 d fun w3 c4 => WO Y (compareOp op') w2 w3 c4 Q else Q (.im (.bl false)) c3)
    (hm : lastMarks [op, op'] [b, d] = false := by with_unfolding_all rfl) : WE Y ρ c (.Compare a [op, op'] [b, d] pos) Q := fun κ σ hc o r g Q' G => by
  refine PE.w (pe_chain op_w op_w pe_w pe_w pe_w hm) (h.bind hc o r g fun v1 w1 κ1 l1 o1 r1 g1 rw1 q1 => q1.bind rfl o1 r1 g1 fun v2 w2 κ2 l2 o2 r2 g2 rw2 q2 => q2 κ2 v1 v2 rfl o2 (rw1.le l2) rw2 _ fun v w κ3 l3 o3 rw3 ⟨k, e, q⟩ => ?_)
  subst e
  refine ⟨k, rw3, ?_⟩
  cases k with
  | true => exact q.bind rfl o3 (r2.le l3) (g2.le l3) fun v4 w4 κ4 l4 o4 r4 g4 rw4 q4 => q4 κ4 v2 v4 rfl o4 ((rw2.le l3).le l4) rw4 Q' (GoV.le G (((l1.trans l2).trans l3).trans l4))
  | false => exact G (.bl false) (.im (.bl false)) κ3 ((l1.trans l2).trans l3) o3 rfl q
/-! ### argument lists, displays -/
theorem wa_nil {QA : List W → List Cell → Prop} (q : QA [] c) : WA Y ρ c [] QA := fun κ σ hc o r g Q' G => PA.w pa_nil (G [] [] κ (.refl _) o rfl (by rw [hc]; exact q))
theorem wa_cons {e : Expr} {es : List Expr} {QA : List W → List Cell → Prop} (h : WE Y ρ c e fun w c1 => WA Y ρ c1 es fun ws c2 => QA (w :: ws) c2) (hs : starEach (e :: es) Y.X.env = (false, eval e Y.X.env) :: starEach es Y.X.env := by rfl) : WA Y ρ c (e :: es) QA := fun κ σ hc o r g Q' G =>
  PA.w (pa_cons pe_w pa_w hs) (h.bind hc o r g fun v1 w1 κ1 l1 o1 r1 g1 rw1 q1 => q1.bind rfl o1 r1 g1 fun vs ws κ2 l2 o2 r2 g2 rws q2 => G (v1 :: vs) (w1 :: ws) κ2 (l1.trans l2) o2 ⟨v1, vs, rfl, rw1.le l2, rws⟩ q2)
/-- all items are data -/
def ims : List W → Option (List D)
  | [] => some []
  | .im d :: r => (ims r).map (d :: ·)
  | .ce _ :: _ => none
theorem RWs.im {K : PySem.W.Frag} {I : Hp} {th : List Addr} : ∀ {ws : List W} {ds : List D} {vs : List V}, ims ws = some ds → RWs K I th ws vs → Rps K I ds vs
  | [], ds, vs, e, h => by
    have : ds = [] := by injection e with e; exact e.symm
    subst this; exact h
  | .im d :: r, ds, _, e, ⟨v, q, h1, h2, h3⟩ => by
    cases hr : ims r with
    | none => rw [show ims (.im d :: r) = (ims r).map (d :: ·) from rfl, hr] at e; cases e
    | some l =>
      rw [show ims (.im d :: r) = (ims r).map (d :: ·) from rfl, hr] at e
      have : ds = d :: l := by injection e with e; exact e.symm
      subst this
      exact ⟨v, q, h1, h2, RWs.im hr h3⟩
  | .ce _ :: _, _, _, e, _ => by cases e
theorem ims_map (ds : List D) : ims (ds.map W.im) = some ds := by
  induction ds with
  | nil => rfl
  | cons d ds ih => show (ims (ds.map W.im)).map (d :: ·) = _; rw [ih]; rfl
theorem sz_of {n : Nat} (h : n ≤ 1000000) : n ≤ sizeLine := Nat.le_trans h (by decide)
/-- a new list, as data -/
theorem new_lst {K : PySem.W.Frag} (o : κ.Ok K) {p : Addr} {vs : List V} {l : List D} (hp : κ.H p = none) (h : Rps K κ.I l vs) : κ.le ⟨upd κ.I p (.lst vs), upd κ.H p (.lst vs), κ.th, κ.c⟩ ∧ Wd.Ok K ⟨upd κ.I p (.lst vs), upd κ.H p (.lst vs), κ.th, κ.c⟩ ∧ Rp K (upd κ.I p (.lst vs)) (.lst l) (.ref p) :=
  ⟨Wd.new_le o hp, o.new hp, p, vs, rfl, upd_same, Rps.ex (Wd.new_le o hp).ii l h⟩
theorem new_tup {K : PySem.W.Frag} (o : κ.Ok K) {p : Addr} {vs : List V} {l : List D} (hp : κ.H p = none) (h : Rps K κ.I l vs) : κ.le ⟨upd κ.I p (.tup vs), upd κ.H p (.tup vs), κ.th, κ.c⟩ ∧ Wd.Ok K ⟨upd κ.I p (.tup vs), upd κ.H p (.tup vs), κ.th, κ.c⟩ ∧ Rp K (upd κ.I p (.tup vs)) (.tup l) (.ref p) :=
  ⟨Wd.new_le o hp, o.new hp, p, vs, rfl, SqT.of upd_same, Rps.ex (Wd.new_le o hp).ii l h⟩
/-- a new list, as a cell -/
theorem new_cel {K : PySem.W.Frag} (o : κ.Ok K) {p : Addr} {vs : List V} {l : List D} (hp : κ.H p = none) (h : Rps K κ.I l vs) : κ.le ⟨κ.I, upd κ.H p (.lst vs), κ.th ++ [p], κ.c ++ [.lst l]⟩ ∧ Wd.Ok K ⟨κ.I, upd κ.H p (.lst vs), κ.th ++ [p], κ.c ++ [.lst l]⟩ ∧ RW K κ.I (κ.th ++ [p]) (.ce κ.c.length) (.ref p) :=
  ⟨Wd.cell_le hp, o.cell hp ⟨vs, upd_same, h⟩, p, by rw [← o.len]; simp, rfl⟩
theorem we_tup {es : List Expr} {k : Nat} {pos : Pos} (h : WA Y ρ c es fun ws c1 => ∃ ds, ims ws = some ds ∧ ds.length ≤ 1000000 ∧ Q (.im (.tup ds)) c1) : WE Y ρ c (.Tuple es k pos) Q := fun κ σ hc o r g Q' G =>
  PE.w (pe_tup pa_w) (h.bind hc o r g fun vs ws κ1 l1 o1 r1 g1 rws ⟨ds, hi, hl, q⟩ => by
    have hr := RWs.im hi rws
    refine ⟨by rw [hr.len]; exact sz_of hl, fun p hp => ?_⟩
    obtain ⟨l2, o2, rp⟩ := new_tup o1 hp hr
    exact G _ (.im (.tup ds)) _ (l1.trans l2) o2 rp q)
theorem we_lst {es : List Expr} {pos : Pos} (h : WA Y ρ c es fun ws c1 => ∃ ds, ims ws = some ds ∧ ds.length ≤ 1000000 ∧ Q (.im (.lst ds)) c1) : WE Y ρ c (.List es pos) Q := fun κ σ hc o r g Q' G =>
  PE.w (pe_lst pa_w) (h.bind hc o r g fun vs ws κ1 l1 o1 r1 g1 rws ⟨ds, hi, hl, q⟩ => by
    have hr := RWs.im hi rws
    refine ⟨by rw [hr.len]; exact sz_of hl, fun p hp => ?_⟩
    obtain ⟨l2, o2, rp⟩ := new_lst o1 hp hr
    exact G _ (.im (.lst ds)) _ (l1.trans l2) o2 rp q)
/-- a display that will be changed: a new cell -/
theorem we_lstC {es : List Expr} {pos : Pos} (h : WA Y ρ c es fun ws c1 => ∃ ds, ims ws = some ds ∧ ds.length ≤ 1000000 ∧ Q (.ce c1.length) (c1 ++ [.lst ds])) : WE Y ρ c (.List es pos) Q := fun κ σ hc o r g Q' G =>
  PE.w (pe_lst pa_w) (h.bind hc o r g fun vs ws κ1 l1 o1 r1 g1 rws ⟨ds, hi, hl, q⟩ => by
    have hr := RWs.im hi rws
    refine ⟨by rw [hr.len]; exact sz_of hl, fun p hp => ?_⟩
    obtain ⟨l2, o2, rp⟩ := new_cel o1 hp hr
    exact G _ _ _ (l1.trans l2) o2 rp q)
/-- {} that will be filled -/
theorem we_dicC {pos : Pos} (q : Q (.ce c.length) (c ++ [.dic [] []])) : WE Y ρ c (.Dict [] [] pos) Q := fun κ σ hc o r g Q' G =>
  PE.w pe_dnewK (fun p hp => G _ _ ⟨κ.I, upd κ.H p (.dK []), κ.th ++ [p], κ.c ++ [.dic [] []]⟩ (Wd.cell_le hp) (o.cell hp (show CellOk Y.X.K κ.I _ _ p (.dic [] []) from ⟨[], upd_same, rfl, Rps.nil⟩)) (show RW Y.X.K κ.I (κ.th ++ [p]) (.ce c.length) (.ref p) from ⟨p, by rw [← hc, ← o.len]; simp, rfl⟩) (by rw [hc]; exact q))
end
end WL
/-! Statements, targets, loops, comprehensions over plain data. -/
namespace WL
open PySem PySem.Spec PyProof.Rows L2
structure EndsW where
  nx : Ρ → List Cell → Prop
  rt : W → List Cell → Prop
  bk : Ρ → List Cell → Prop := fun _ _ => False
  ct : Ρ → List Cell → Prop := fun _ _ => False
structure EOk (Y : Cy) (κ0 : Wd) (Z : EndsW) (De : Ends) : Prop where
  nx : ∀ σ' κ' ρ', κ0.le κ' → κ'.Ok Y.X.K → REnv Y.X.K κ' σ' ρ' → Z.nx ρ' κ'.c → De.nx σ' κ'.H
  rt : ∀ v w κ', κ0.le κ' → κ'.Ok Y.X.K → RW Y.X.K κ'.I κ'.th w v → Z.rt w κ'.c → De.rt v κ'.H
  bk : ∀ σ' κ' ρ', κ0.le κ' → κ'.Ok Y.X.K → REnv Y.X.K κ' σ' ρ' → Z.bk ρ' κ'.c → De.bk σ' κ'.H
  ct : ∀ σ' κ' ρ', κ0.le κ' → κ'.Ok Y.X.K → REnv Y.X.K κ' σ' ρ' → Z.ct ρ' κ'.c → De.ct σ' κ'.H
  ex : ∀ x C d σ' κ' ρ', κ0.le κ' → κ'.Ok Y.X.K → REnv Y.X.K κ' σ' ρ' → RX Y.X.K κ' x C d → Y.Qx x ρ' κ'.c → Y.Wx C d σ' κ'.H
def WS (Y : Cy) (n0 : Nat) (ρ : Ρ) (c : List Cell) (st : Stmt) (Z : EndsW) : Prop :=
  ∀ κ0 κ σ, κ0.th.length = n0 → κ0.le κ → κ.c = c → κ.Ok Y.X.K → REnv Y.X.K κ σ ρ → ∀ De, EOk Y κ0 Z De → wS Y.X st De σ κ.H
def WSs (Y : Cy) (n0 : Nat) (ρ : Ρ) (c : List Cell) (sts : List Stmt) (Z : EndsW) : Prop :=
  ∀ κ0 κ σ, κ0.th.length = n0 → κ0.le κ → κ.c = c → κ.Ok Y.X.K → REnv Y.X.K κ σ ρ → ∀ De, EOk Y κ0 Z De → wSs Y.X sts De σ κ.H
section
variable {Y : Cy} {n0 : Nat} {ρ : Ρ} {c : List Cell} {Z : EndsW} {pos : Pos}
theorem EOk.gox {κ0 κ : Wd} {De : Ends} {σ : L2.St} (E : EOk Y κ0 Z De) (l : κ0.le κ) (r : REnv Y.X.K κ σ ρ) : GoX Y κ σ ρ := ⟨fun x C d κ' l' o' rx q => E.ex x C d σ κ' ρ (l.trans l') o' (r.le l') rx q⟩
theorem wss_nil (q : Z.nx ρ c) : WSs Y n0 ρ c [] Z := fun κ0 κ σ h0 l hc o r De E => PSs.w pss_nil (E.nx σ κ ρ l o r (by rw [hc]; exact q))
theorem wss_cons {st : Stmt} {rest : List Stmt} (h : WS Y n0 ρ c st { Z with nx := fun ρ' c' => WSs Y n0 ρ' c' rest Z }) : WSs Y n0 ρ c (st :: rest) Z := fun κ0 κ σ h0 l hc o r De E =>
  PSs.w (pss_cons ps_w pss_w) (h κ0 κ σ h0 l hc o r { De with nx := wSs Y.X rest De } ⟨fun σ' κ' ρ' l' o' r' q => q κ0 κ' σ' h0 l' rfl o' r' De E, E.rt, E.bk, E.ct, E.ex⟩)
theorem wss_one {st : Stmt} (h : WS Y n0 ρ c st Z) : WSs Y n0 ρ c [st] Z := fun κ0 κ σ h0 l hc o r De E => PSs.w (pss_one ps_w) (h κ0 κ σ h0 l hc o r De E)
theorem WSs.mono {sts : List Stmt} {Z2 : EndsW} (h : WSs Y n0 ρ c sts Z) (k1 : ∀ a b, Z.nx a b → Z2.nx a b) (k2 : ∀ a b, Z.rt a b → Z2.rt a b) (k3 : ∀ a b, Z.bk a b → Z2.bk a b) (k4 : ∀ a b, Z.ct a b → Z2.ct a b) : WSs Y n0 ρ c sts Z2 := fun κ0 κ σ h0 l hc o r De E =>
  h κ0 κ σ h0 l hc o r De ⟨fun σ' κ' ρ' l' o' r' q => E.nx σ' κ' ρ' l' o' r' (k1 _ _ q), fun v w κ' l' o' r' q => E.rt v w κ' l' o' r' (k2 _ _ q), fun σ' κ' ρ' l' o' r' q => E.bk σ' κ' ρ' l' o' r' (k3 _ _ q), fun σ' κ' ρ' l' o' r' q => E.ct σ' κ' ρ' l' o' r' (k4 _ _ q), E.ex⟩
/-- a word between a statement and the rest -/
theorem wss_cut {st : Stmt} {rest : List Stmt} (P : Ρ → List Cell → Prop) (h : WS Y n0 ρ c st { Z with nx := P }) (k : ∀ ρ' c', P ρ' c' → WSs Y n0 ρ' c' rest Z) : WSs Y n0 ρ c (st :: rest) Z :=
  wss_cons fun κ0 κ σ h0 l hc o r De E => h κ0 κ σ h0 l hc o r De ⟨fun σ' κ' ρ' l' o' r' q => E.nx σ' κ' ρ' l' o' r' (k _ _ q), E.rt, E.bk, E.ct, E.ex⟩
/-! ### small statements -/
theorem ws_pass (q : Z.nx ρ c) : WS Y n0 ρ c (.Pass pos) Z := fun κ0 κ σ h0 l hc o r De E => PS.w ps_pass (E.nx σ κ ρ l o r (by rw [hc]; exact q))
theorem ws_break (q : Z.bk ρ c) : WS Y n0 ρ c (.Break pos) Z := fun κ0 κ σ h0 l hc o r De E => PS.w ps_break (E.bk σ κ ρ l o r (by rw [hc]; exact q))
theorem ws_continue (q : Z.ct ρ c) : WS Y n0 ρ c (.Continue pos) Z := fun κ0 κ σ h0 l hc o r De E => PS.w ps_continue (E.ct σ κ ρ l o r (by rw [hc]; exact q))
theorem ws_expr {e : Expr} (h : WE Y ρ c e fun _ c' => Z.nx ρ c') (hs : swapsWith e none pos.line Y.X.env = pure false := by rfl) : WS Y n0 ρ c (.Expr e pos) Z := fun κ0 κ σ h0 l hc o r De E =>
  PS.w (ps_expr pe_w hs) (h.bind hc o r (E.gox l r) fun v w κ1 l1 o1 r1 g1 rw1 q => E.nx σ κ1 ρ (l.trans l1) o1 r1 q)
theorem ws_ret {e : Expr} (h : WE Y ρ c e Z.rt) : WS Y n0 ρ c (.Return (some e) pos) Z := fun κ0 κ σ h0 l hc o r De E =>
  PS.w (ps_ret pe_w) (h.bind hc o r (E.gox l r) fun v w κ1 l1 o1 r1 g1 rw1 q => E.rt v w κ1 (l.trans l1) o1 rw1 q)
theorem ws_retN (q : Z.rt (.im .non) c) : WS Y n0 ρ c (.Return none pos) Z := fun κ0 κ σ h0 l hc o r De E => PS.w ps_retN (E.rt .non (.im .non) κ l o rfl (by rw [hc]; exact q))
theorem ws_if {t : Expr} {a b : List Stmt} (h : WT Y ρ c t fun k c1 => if k = true then WSs Y n0 ρ c1 a Z else WSs Y n0 ρ c1 b Z) : WS Y n0 ρ c (.If t a b pos) Z := fun κ0 κ σ h0 l hc o r De E =>
  PS.w (ps_if pt_w pss_w pss_w) (h.bind hc o r (E.gox l r) fun k κ1 l1 o1 r1 g1 q => by
    cases k with
    | true => exact q κ0 κ1 σ h0 (l.trans l1) rfl o1 r1 De E
    | false => exact q κ0 κ1 σ h0 (l.trans l1) rfl o1 r1 De E)
theorem ws_set {i : Nat} {x : Str} {e : Expr} {pos' : Pos} (hN : Y.X.N.Nodup) (hi : Y.X.N.idxOf? x = some i) (h : WE Y ρ c e fun w c' => Z.nx (ρ.set i (some w)) c') (hx : Loc Y.X.env.scope x := by first | exact Or.inl rfl | exact Or.inr rfl)
    (hs : swapsWith e (some (.Name x pos')) pos.line Y.X.env = pure false := by rfl) (hf : Y.X.fn x = true ∨ Y.X.env.scope.names.lookup x = some .local := by first | exact .inl rfl | exact .inr rfl) : WS Y n0 ρ c (.Assign [.Name x pos'] e pos) Z := fun κ0 κ σ h0 l hc o r De E =>
  PS.w (ps_set hN (ix_of hi) hx pe_w hs hf) (h.bind hc o r (E.gox l r) fun v w κ1 l1 o1 r1 g1 rw1 q => E.nx _ κ1 _ (l.trans l1) o1 (r1.set rw1) q)
/-- a, b = x, y -/
theorem ws_par {i j : Nat} {x y : Str} {a b : Expr} {px py pt : Pos} {kt k2 : Nat} {pt2 : Pos} (hcm : Y.X.calm = true) (hN : Y.X.N.Nodup) (hi : Y.X.N.idxOf? x = some i) (hj : Y.X.N.idxOf? y = some j) (hij : i ≠ j)
    (h : WA Y ρ c [a, b] fun ws c' => ∃ w1 w2, ws = [w1, w2] ∧ Z.nx ((ρ.set i (some w1)).set j (some w2)) c') (hx : Y.X.env.scope.names.lookup x = some .local := by rfl) (hy : Y.X.env.scope.names.lookup y = some .local := by rfl)
    (hw : swappedStores [.Tuple [.Name x px, .Name y py] kt pt] (.Tuple [a, b] k2 pt2) Y.X.env = pure (some [x, y]) := by rfl) (hs : swapsWithSole [.Tuple [.Name x px, .Name y py] kt pt] (.Tuple [a, b] k2 pt2) pos.line Y.X.env = pure false := by rfl) :
    WS Y n0 ρ c (.Assign [.Tuple [.Name x px, .Name y py] kt pt] (.Tuple [a, b] k2 pt2) pos) Z := fun κ0 κ σ h0 l hc o r De E =>
  PS.w (ps_par hcm hN (ix_of hi) (ix_of hj) hij hx hy pa_w hw hs) (h.bind hc o r (E.gox l r) fun vs ws κ1 l1 o1 r1 g1 rws ⟨w1, w2, e, q⟩ => by
    subst e
    obtain ⟨v1, rr, e1, rw1, v2, rr2, e2, rw2, e3⟩ := rws
    have e3 : rr2 = [] := e3
    subst e3 e2 e1
    exact ⟨v1, v2, rfl, E.nx _ κ1 _ (l.trans l1) o1 ((r1.set rw1).set rw2) q⟩)
theorem ws_aug {i : Nat} {x : Str} {e : Expr} {op : Operator} {pos' : Pos} {w0 : W} (hN : Y.X.N.Nodup) (hi : Y.X.N.idxOf? x = some i) (hr : ρ[i]? = some (some w0)) (h : WE Y ρ c e fun w c' => WO Y (inplaceOp op) w0 w c' fun w2 c2 => Z.nx (ρ.set i (some w2)) c2)
    (hx : Loc Y.X.env.scope x := by first | exact Or.inl rfl | exact Or.inr rfl) (hf : Y.X.fn x = true ∨ Y.X.env.scope.names.lookup x = some .local := by first | exact .inl rfl | exact .inr rfl) : WS Y n0 ρ c (.AugAssign (.Name x pos') op e pos) Z := fun κ0 κ σ h0 l hc o r De E => by
  obtain ⟨v0, g1, g2⟩ := r.at_ i w0 hr
  refine PS.w (ps_aug hN (ix_of hi) hx pe_w (op_w (f := inplaceOp op)) hf) ⟨v0, g1, ?_⟩
  exact h.bind hc o r (E.gox l r) fun v w κ1 l1 o1 r1 gg rw1 q => q κ1 v0 v rfl o1 (g2.le l1) rw1 _ fun v2 w2 κ2 l2 o2 rw2 q2 => E.nx _ κ2 _ ((l.trans l1).trans l2) o2 ((r1.le l2).set rw2) q2
/-! ### targets: a name; names in a tuple -/
inductive Tgt where
  | nm (i : Nat) | tp (is : List Nat)
def gNames : List Nat → TGs
  | [] => gNil
  | i :: r => gCons (gName i) (gNames r)
def Tgt.g (K : PySem.W.Frag) : Tgt → TG
  | .nm i => gName i
  | .tp is => gTup K is.length (gNames is)
def Tgt.slots : Tgt → List Nat
  | .nm i => [i]
  | .tp is => is
def setsW (ρ : Ρ) : List Nat → List D → Ρ
  | i :: is, d :: ds => setsW (ρ.set i (some (.im d))) is ds
  | _, _ => ρ
def setsV (σ : L2.St) : List Nat → List V → L2.St
  | i :: is, d :: ds => setsV (σ.set i (some d)) is ds
  | _, _ => σ
/-- what d must be to be taken apart so -/
def Tgt.fits : Tgt → D → Prop
  | .nm _, _ => True
  | .tp is, d => ∃ ds, d = .tup ds ∧ ds.length = is.length
def Tgt.bind (ρ : Ρ) : Tgt → D → Ρ
  | .nm i, d => ρ.set i (some (.im d))
  | .tp is, .tup ds => setsW ρ is ds
  | .tp _, _ => ρ
theorem gNames_go {κ : Wd} {Q : L2.St → Hp → Prop} {H : Hp} : ∀ {is : List Nat} {ds : List D} {vs : List V} {σ : L2.St} {ρ : Ρ}, ds.length = is.length → Rps Y.X.K κ.I ds vs → REnv Y.X.K κ σ ρ →
    (∀ σ', σ' = setsV σ is vs → REnv Y.X.K κ σ' (setsW ρ is ds) → Q σ' H) → gNames is vs σ H Q
  | [], [], vs, σ, ρ, _, h, r, q => by
    have : vs = [] := h
    subst this
    exact ⟨rfl, q σ rfl r⟩
  | i :: is, d :: ds, _, σ, ρ, e, ⟨v, rr, h1, h2, h3⟩, r, q => by
    subst h1
    exact ⟨v, rr, rfl, gNames_go (by simpa using e) h3 (r.set (show RW Y.X.K κ.I κ.th (.im d) v from h2)) q⟩
  | [], _ :: _, _, _, _, e, _, _, _ => by simp at e
  | _ :: _, [], _, _, _, e, _, _, _ => by simp at e
theorem wipe_set {σ : L2.St} {i : Nat} {v : Option V} : ∀ {vs : List Nat}, i ∈ vs → L2.wipe (σ.set i v) vs = L2.wipe σ vs
  | [], h => by simp at h
  | j :: js, h => by
    show (L2.wipe (σ.set i v) js).set j none = (L2.wipe σ js).set j none
    by_cases hm : i ∈ js
    · rw [wipe_set hm]
    · have e : i = j := by
        rcases List.mem_cons.mp h with h | h
        · exact h
        · exact absurd h hm
      subst e
      clear h hm
      induction js with
      | nil => show (σ.set i v).set i none = σ.set i none; rw [List.set_set]
      | cons k ks ih =>
        show ((L2.wipe (σ.set i v) ks).set k none).set i none = ((L2.wipe σ ks).set k none).set i none
        by_cases hk : k = i
        · subst hk; rw [List.set_set, List.set_set]; exact ih
        · rw [List.set_comm _ _ hk, ih, List.set_comm _ _ hk]
theorem wipe_wipe {σ : L2.St} (vs : List Nat) : L2.wipe (L2.wipe σ vs) vs = L2.wipe σ vs := by
  have gen : ∀ ws : List Nat, (∀ i ∈ ws, i ∈ vs) → L2.wipe (L2.wipe σ ws) vs = L2.wipe σ vs := by
    intro ws
    induction ws with
    | nil => intro _; rfl
    | cons w ws ih =>
      intro h
      show L2.wipe ((L2.wipe σ ws).set w none) vs = _
      rw [wipe_set (h w List.mem_cons_self)]
      exact ih fun i hi => h i (List.mem_cons_of_mem _ hi)
  exact gen vs fun _ h => h
theorem wipe_sets {vs : List Nat} : ∀ {is : List Nat} {xs : List V} {σ : L2.St}, (∀ i ∈ is, i ∈ vs) → L2.wipe (setsV σ is xs) vs = L2.wipe σ vs
  | [], _, _, _ => rfl
  | _ :: _, [], _, _ => rfl
  | i :: is, x :: xs, σ, h => by
    show L2.wipe (setsV (σ.set i (some x)) is xs) vs = _
    rw [wipe_sets fun j hj => h j (List.mem_cons_of_mem _ hj), wipe_set (h i List.mem_cons_self)]
theorem Tgt.go {κ : Wd} {t : Tgt} {d : D} {v : V} {σ : L2.St} {Q : L2.St → Hp → Prop} (hf : t.fits d) (o : κ.Ok Y.X.K) (h : Rp Y.X.K κ.I d v) (r : REnv Y.X.K κ σ ρ)
    (q : ∀ σ', (∀ vs, (∀ i ∈ t.slots, i ∈ vs) → L2.wipe σ' vs = L2.wipe σ vs) → REnv Y.X.K κ σ' (t.bind ρ d) → Q σ' κ.H) : t.g Y.X.K v σ κ.H Q := by
  cases t with
  | nm i => exact q _ (fun vs hv => wipe_set (hv i List.mem_cons_self)) (r.set (show RW Y.X.K κ.I κ.th (.im d) v from h))
  | tp is =>
    obtain ⟨ds, rfl, hl⟩ := hf
    obtain ⟨a, vs, rfl, h1, h2⟩ := h
    exact ⟨a, vs, rfl, ex_t o.ex h1, by rw [h2.len, hl], gNames_go hl h2 r fun σ' e r' => q σ' (fun ws hw => by rw [e]; exact wipe_sets hw) r'⟩
/-! ### what is walked -/
def wI (X : Cx) (tg iter : Expr) : TI := fun σ H R => ∀ (pins : List (Addr × Obj)) (s : Shared), Inv X pins σ H s →
    wpAny (model X.prog X.w) X.A (eval iter X.env) (fun v s1 => wpAny (model X.prog X.w) X.A (pyIter v) (PIE X pins σ tg R) X.xe s1) X.xe s
theorem pi_w {X : Cx} {tg iter : Expr} : PI X tg iter (wI X tg iter) := ⟨fun pins s σ H R I h => h pins s I⟩
theorem PI.w {X : Cx} {tg iter : Expr} {wi : TI} {σ : L2.St} {H : Hp} {R : It → Hp → Prop} (h : PI X tg iter wi) (q : wi σ H R) : wI X tg iter σ H R := fun pins s I => h.run pins s σ H R I q
/-- the iterator gives these data, in any later world -/
structure ItOk (K : PySem.W.Frag) (J : It) (ds : List D) (κ1 : Wd) : Prop where
  go : ∀ κ' : Wd, Ex κ1.I κ'.I → κ'.Ok K → ∀ i, i < ds.length → J.go i κ'.H
  stop : ∀ κ' : Wd, Ex κ1.I κ'.I → κ'.Ok K → J.stop ds.length κ'.H
  yld : ∀ κ' : Wd, Ex κ1.I κ'.I → κ'.Ok K → ∀ i d x H', ds[i]? = some d → J.yld i κ'.H x H' → ∃ κ2, κ'.le κ2 ∧ κ2.Ok K ∧ κ2.H = H' ∧ κ2.c = κ'.c ∧ Rp K κ2.I d x
def WI (Y : Cy) (ρ : Ρ) (c : List Cell) (tg iter : Expr) (Q : List D → List Cell → Prop) : Prop :=
  ∀ κ σ, κ.c = c → κ.Ok Y.X.K → REnv Y.X.K κ σ ρ → GoX Y κ σ ρ → ∀ Q' : It → Hp → Prop, (∀ J ds κ1, κ.le κ1 → κ1.Ok Y.X.K → ItOk Y.X.K J ds κ1 → Q ds κ1.c → Q' J κ1.H) → wI Y.X tg iter σ κ.H Q'
theorem itok_list {K : PySem.W.Frag} {κ1 : Wd} {a : Addr} {vs : List V} {ds : List D} (h : κ1.I a = some (.lst vs)) (r : Rps K κ1.I ds vs) : ItOk K (Itl K a) ds κ1 := by
  have hl := r.len
  have sq : ∀ κ' : Wd, Ex κ1.I κ'.I → κ'.Ok K → SqL K κ'.H a vs := fun κ' l o => SqL.of (o.ex _ _ (l _ _ h))
  refine ⟨fun κ' l o i hi => ?_, fun κ' l o => ?_, fun κ' l o i d x H' hd y => ?_⟩
  · exact walk_list.goes i _ (by rw [hl]; exact hi) (sq κ' l o)
  · rw [← hl]; exact walk_list.stops _ (sq κ' l o)
  · obtain ⟨rfl, hx⟩ := y
    obtain ⟨v, g1, g2⟩ := r.get hd
    have := hx vs (sq κ' l o)
    rw [g1] at this; cases this
    exact ⟨κ', .refl _, o, rfl, rfl, Rp.ex l d g2⟩
theorem itok_scr {K : PySem.W.Frag} {κ1 : Wd} {a : Addr} {ns : List Int} (h : SqL K κ1.I a (ns.map V.int)) : ItOk K (Itl K a) (ns.map D.int) κ1 := by
  have sq : ∀ κ' : Wd, Ex κ1.I κ'.I → κ'.Ok K → SqL K κ'.H a (ns.map V.int) := fun κ' l o => ex_l (l.trans o.ex) h
  refine ⟨fun κ' l o i hi => ?_, fun κ' l o => ?_, fun κ' l o i d x H' hd y => ?_⟩
  · exact walk_list.goes i _ (by simpa using hi) (sq κ' l o)
  · have := walk_list.stops _ (sq κ' l o)
    simpa using this
  · obtain ⟨rfl, hx⟩ := y
    have := hx _ (sq κ' l o)
    obtain ⟨v, g1, g2⟩ := (Rps.ofInts (K := K) (I := κ'.I) ns).get hd
    rw [g1] at this; cases this
    exact ⟨κ', .refl _, o, rfl, rfl, g2⟩
theorem itok_tup {K : PySem.W.Frag} {κ1 : Wd} {a : Addr} {vs : List V} {ds : List D} (h : SqT K κ1.I a vs) (r : Rps K κ1.I ds vs) : ItOk K (Itt K a) ds κ1 := by
  have hl := r.len
  have sq : ∀ κ' : Wd, Ex κ1.I κ'.I → κ'.Ok K → SqT K κ'.H a vs := fun κ' l o => ex_t (l.trans o.ex) h
  refine ⟨fun κ' l o i hi => ?_, fun κ' l o => ?_, fun κ' l o i d x H' hd y => ?_⟩
  · exact walk_tup.goes i _ (by rw [hl]; exact hi) (sq κ' l o)
  · rw [← hl]; exact walk_tup.stops _ (sq κ' l o)
  · obtain ⟨rfl, hx⟩ := y
    obtain ⟨v, g1, g2⟩ := r.get hd
    have := hx vs (sq κ' l o)
    rw [g1] at this; cases this
    exact ⟨κ', .refl _, o, rfl, rfl, Rp.ex l d g2⟩
/-- lo, lo + 1, .. -/
def rangeD (lo : Int) (n : Nat) : List D := (List.range n).map fun i => D.int (lo + (i : Nat))
theorem rangeD_len (lo : Int) (n : Nat) : (rangeD lo n).length = n := by unfold rangeD; simp
theorem rangeD_get {lo : Int} {n i : Nat} {d : D} (h : (rangeD lo n)[i]? = some d) : i < n ∧ d = .int (lo + (i : Nat)) := by
  unfold rangeD at h
  rw [List.getElem?_map] at h
  by_cases hi : i < n
  · rw [List.getElem?_range hi] at h
    exact ⟨hi, by simpa using h.symm⟩
  · rw [List.getElem?_eq_none (by simpa using hi)] at h; cases h
theorem itok_range {K : PySem.W.Frag} {κ1 : Wd} (lo : Int) (n : Nat) : ItOk K (Itr lo n) (rangeD lo n) κ1 := by
  refine ⟨fun κ' l o i hi => ?_, fun κ' l o => ?_, fun κ' l o i d x H' hd y => ?_⟩
  · show i < n; rw [rangeD_len] at hi; exact hi
  · show n ≤ (rangeD lo n).length; rw [rangeD_len]; exact Nat.le_refl _
  · obtain ⟨rfl, rfl⟩ := y
    obtain ⟨_, rfl⟩ := rangeD_get hd
    exact ⟨κ', .refl _, o, rfl, rfl, rfl⟩
theorem wi_seq {tg e : Expr} {Q : List D → List Cell → Prop} (h : WE Y ρ c e fun w c1 => ∃ ds, (w = .im (.lst ds) ∨ ∃ ns, w = .im (.scr ns) ∧ ds = ns.map D.int) ∧ Q ds c1) : WI Y ρ c tg e Q := fun κ σ hc o r g Q' G =>
  PI.w (pi_list pe_w) (h.bind hc o r g fun v w κ1 l1 o1 r1 g1 rw1 ⟨ds, e, q⟩ => by
    rcases e with rfl | ⟨ns, rfl, rfl⟩
    · obtain ⟨a, vs, rfl, h1, h2⟩ := rw1
      exact ⟨a, rfl, ⟨vs, SqL.of (o1.ex _ _ h1)⟩, G _ _ κ1 l1 o1 (itok_list h1 h2) q⟩
    · obtain ⟨a, rfl, h1⟩ := rw1
      exact ⟨a, rfl, ⟨_, ex_l o1.ex h1⟩, G _ _ κ1 l1 o1 (itok_scr h1) q⟩)
theorem wi_tup {tg e : Expr} {Q : List D → List Cell → Prop} (h : WE Y ρ c e fun w c1 => ∃ ds, w = .im (.tup ds) ∧ Q ds c1) : WI Y ρ c tg e Q := fun κ σ hc o r g Q' G =>
  PI.w (pi_tup pe_w) (h.bind hc o r g fun v w κ1 l1 o1 r1 g1 rw1 ⟨ds, e, q⟩ => by
    subst e
    obtain ⟨a, vs, rfl, h1, h2⟩ := rw1
    exact ⟨a, rfl, ⟨vs, ex_t o1.ex h1⟩, G _ _ κ1 l1 o1 (itok_tup h1 h2) q⟩)
theorem wi_range1 {tg a : Expr} {p pos : Pos} {Q : List D → List Cell → Prop} (hg : Gl Y.X "range") (hm : Y.X.mg "range" = none) (h : WE Y ρ c a fun w c1 => ∃ j : Int, w = .im (.int j) ∧ -(2 ^ 62) ≤ j ∧ j < 2 ^ 62 ∧ Q (rangeD 0 j.toNat) c1) (hs : starEach [a] Y.X.env = [(false, eval a Y.X.env)] := by rfl) :
    WI Y ρ c tg (.Call (.Name "range" p) [a] [] pos) Q := fun κ σ hc o r g Q' G =>
  PI.w (pi_range1 hg hm (pa_cons pe_w pa_nil hs) hs) (h.bind hc o r g fun v w κ1 l1 o1 r1 g1 rw1 ⟨j, e, b1, b2, q⟩ => by
    subst e
    exact ⟨j, by rw [show v = .int j from rw1], b1, b2, G _ _ κ1 l1 o1 (itok_range 0 _) q⟩)
/-! ### for -/
theorem ws_for {tg iter : Expr} {body : List Stmt} (t : Tgt) (hcm : Y.X.calm = true) (hg : PG Y.X tg (t.g Y.X.K))
    (h : WI Y ρ c tg iter fun ds c1 => ∃ P : Nat → Ρ → List Cell → Prop, P 0 ρ c1 ∧ (∀ i d ρ' c', ds[i]? = some d → P i ρ' c' → t.fits d ∧ WSs Y c1.length (t.bind ρ' d) c' body { nx := P (i + 1), rt := Z.rt, bk := Z.nx, ct := P (i + 1) }) ∧ ∀ ρ' c', P ds.length ρ' c' → Z.nx ρ' c')
    (hs : ∀ x, foldedSetIterable iter Y.X.env x = pure x := by intro _; rfl) : WS Y n0 ρ c (.For tg iter body [] pos) Z := fun κ0 κ σ h0 l hc o r De E => by
  refine PS.w (ps_for Y.po hcm pi_w hg pss_w hs) (h κ σ hc o r (E.gox l r) _ fun J ds κ1 l1 o1 it ⟨P, p0, turn, fin⟩ => ?_)
  have hlen : κ1.th.length = κ1.c.length := o1.len
  refine ⟨fun i m σ' H' => m = ds.length - i ∧ i ≤ ds.length ∧ ∃ κ' ρ', κ1.le κ' ∧ κ'.Ok Y.X.K ∧ REnv Y.X.K κ' σ' ρ' ∧ P i ρ' κ'.c ∧ κ'.H = H', ⟨ds.length, by simp, Nat.zero_le _, κ1, ρ, .refl _, o1, r.le l1, p0, rfl⟩, ?_⟩
  rintro i m σ' H' ⟨rfl, hi, κ', ρ', l', o', r', p, rfl⟩
  by_cases hlt : i < ds.length
  · have hd : ds[i]? = some ds[i] := List.getElem?_eq_getElem hlt
    refine .inr ⟨it.go κ' l'.ii o' i hlt, fun σ2 H2 => ∃ κ2 ρ2, κ1.le κ2 ∧ κ2.Ok Y.X.K ∧ REnv Y.X.K κ2 σ2 ρ2 ∧ P (i + 1) ρ2 κ2.c ∧ κ2.H = H2, fun σ2 H2 ⟨κ2, ρ2, a1, a2, a3, a4, a5⟩ => ⟨ds.length - (i + 1), by omega, rfl, hlt, κ2, ρ2, a1, a2, a3, a4, a5⟩, fun x H2 y => ?_⟩
    obtain ⟨κ2, l2, o2, rfl, ec, rp⟩ := it.yld κ' l'.ii o' i _ x H2 hd y
    obtain ⟨hf, hb⟩ := turn i _ ρ' κ2.c hd (by rw [ec]; exact p)
    refine Tgt.go hf o2 rp (r'.le l2) fun σ3 _ r3 => ?_
    exact hb κ1 κ2 σ3 hlen (l'.trans l2) rfl o2 r3 _ ⟨fun σ4 κ4 ρ4 l4 o4 r4 q => ⟨κ4, ρ4, l4, o4, r4, q, rfl⟩, fun v w κ4 l4 o4 rw4 q => E.rt v w κ4 (l.trans (l1.trans l4)) o4 rw4 q, fun σ4 κ4 ρ4 l4 o4 r4 q => E.nx σ4 κ4 ρ4 (l.trans (l1.trans l4)) o4 r4 q,
      fun σ4 κ4 ρ4 l4 o4 r4 q => ⟨κ4, ρ4, l4, o4, r4, q, rfl⟩, fun x' C d' σ4 κ4 ρ4 l4 o4 r4 rx q => E.ex x' C d' σ4 κ4 ρ4 (l.trans (l1.trans l4)) o4 r4 rx q⟩
  · have e : i = ds.length := by omega
    subst e
    exact .inl ⟨it.stop κ' l'.ii o', E.nx σ' κ' ρ' (l.trans (l1.trans l')) o' r' (fin ρ' κ'.c p)⟩
end
end WL
/-! Comprehensions, defs and their calls over plain data. -/
namespace WL
open PySem PySem.Spec PyProof.Rows L2
/-! ### an object beside the world: a list being made -/
structure Side (κ : Wd) (a : Addr) (u : HO) : Prop where
  i : κ.I a = none
  t : a ∉ κ.th
  h : κ.H a = some u
theorem Side.le {κ κ' : Wd} {a : Addr} {u : HO} (s : Side κ a u) (l : κ.le κ') : Side κ' a u where
  i := l.nw a (by rw [s.h]; intro z; cases z) s.i
  t := fun m => by
    have := l.nt a m s.t
    rw [s.h] at this; cases this
  h := l.fr a u s.h s.t
section
variable {K : PySem.W.Frag} {κ : Wd}
theorem Side.new (o : κ.Ok K) {p : Addr} {u : HO} (hp : κ.H p = none) : Side ⟨κ.I, upd κ.H p u, κ.th, κ.c⟩ p u where
  i := by
    show κ.I p = none
    cases q : κ.I p with
    | none => rfl
    | some x => rw [o.ex _ _ q] at hp; cases hp
  t := fun m => o.thH m hp
  h := upd_same
/-- the object beside is written -/
theorem Wd.Ok.side (o : κ.Ok K) {p : Addr} {u u' : HO} (s : Side κ p u) : Wd.Ok K ⟨κ.I, upd κ.H p u', κ.th, κ.c⟩ ∧ Side ⟨κ.I, upd κ.H p u', κ.th, κ.c⟩ p u' := by
  refine ⟨⟨fun a x h => ?_, o.len, o.nd, o.off, fun n a k h1 h2 => ?_⟩, ⟨s.i, s.t, upd_same⟩⟩
  · show upd κ.H p u' a = some x
    have : a ≠ p := fun z => by subst z; rw [s.i] at h; cases h
    rw [upd_ne this]; exact o.ex _ _ h
  · have ha : a ≠ p := fun z => by subst z; exact s.t (List.mem_of_getElem? h1)
    have q : upd κ.H p u' a = κ.H a := upd_ne ha
    have ck := o.cl n a k h1 h2
    cases k with
    | lst l => obtain ⟨vs, g1, g2⟩ := ck; exact ⟨vs, q.trans g1, g2⟩
    | dic ks l => obtain ⟨vs, g1, g2⟩ := ck; exact ⟨vs, q.trans g1, g2⟩
    | ins C ns ws => obtain ⟨dx, vs, g1, g2⟩ := ck; exact ⟨dx, vs, q.trans g1, g2⟩
    | xo R => obtain ⟨x, g1, g2⟩ := ck; exact ⟨x, q.trans g1, g2⟩
    | xw R ws => obtain ⟨x, vs, g1, g2⟩ := ck; exact ⟨x, vs, q.trans g1, g2⟩
theorem Wd.le.side {κ0 : Wd} (l : κ0.le κ) {p : Addr} {u u' : HO} (s : Side κ p u) (h0 : κ0.H p = none) : κ0.le ⟨κ.I, upd κ.H p u', κ.th, κ.c⟩ where
  ii := l.ii
  th := l.th
  fr := fun a x h n => by
    show upd κ.H p u' a = some x
    rw [upd_ne (ne_of_none h h0)]; exact l.fr a x h n
  hd := fun a h => by
    show upd κ.H p u' a ≠ none
    have : a ≠ p := fun z => by subst z; exact h h0
    rw [upd_ne this]; exact l.hd a h
  nw := l.nw
  nt := l.nt
/-- the object beside becomes data -/
theorem Wd.Ok.adopt (o : κ.Ok K) {p : Addr} {u : HO} (s : Side κ p u) : Wd.Ok K ⟨upd κ.I p u, κ.H, κ.th, κ.c⟩ ∧ Ex κ.I (upd κ.I p u) := by
  have ee : Ex κ.I (upd κ.I p u) := Ex.new s.i
  refine ⟨⟨fun a x h => ?_, o.len, o.nd, fun a h => ?_, fun n a k h1 h2 => ?_⟩, ee⟩
  · have h : upd κ.I p u a = some x := h
    by_cases e : a = p
    · subst e; rw [upd_same] at h; cases h; exact s.h
    · rw [upd_ne e] at h; exact o.ex _ _ h
  · show upd κ.I p u a = none
    have : a ≠ p := fun z => by subst z; exact s.t h
    rw [upd_ne this]; exact o.off a h
  · have ck := o.cl n a k h1 h2
    cases k with
    | lst l => obtain ⟨vs, g1, g2⟩ := ck; exact ⟨vs, g1, Rps.ex ee l g2⟩
    | dic ks l => obtain ⟨vs, g1, g2, g3⟩ := ck; exact ⟨vs, g1, g2, Rps.ex ee l g3⟩
    | ins C ns ws =>
      obtain ⟨dx, vs, g1, g2, g3⟩ := ck
      exact ⟨dx, vs, g1, g2, RWs.mono ee (fun _ _ h => h) g3⟩
    | xo R => obtain ⟨x, g1, g2⟩ := ck; exact ⟨x, g1, fun I' e => g2 I' (ee.trans e)⟩
    | xw R ws => obtain ⟨x, vs, g1, g2, g3⟩ := ck; exact ⟨x, vs, g1, RWs.mono ee (fun _ _ h => h) g2, fun I' e => g3 I' (ee.trans e)⟩
end
/-! ### what remains when local cells go -/
def W.below (n : Nat) : W → Bool
  | .im _ => true
  | .ce m => decide (m < n)
def Cell.below (n : Nat) : Cell → Bool
  | .lst _ => true
  | .dic _ _ => true
  | .ins _ _ ws => ws.all (W.below n)
  | .xo _ => true
  | .xw _ ws => ws.all (W.below n)
def clo (n : Nat) (c : List Cell) : Bool := (c.take n).all (Cell.below n)
section
variable {K : PySem.W.Frag} {κ : Wd}
theorem RW.take {I : Hp} {th : List Addr} {n : Nat} : ∀ {w : W} {v : V}, w.below n = true → RW K I th w v → RW K I (th.take n) w v
  | .im _, _, _, h => h
  | .ce m, _, b, ⟨a, h1, h2⟩ => ⟨a, by rw [List.getElem?_take, if_pos (of_decide_eq_true b)]; exact h1, h2⟩
theorem RWs.take {I : Hp} {th : List Addr} {n : Nat} : ∀ {ws : List W} {vs : List V}, ws.all (W.below n) = true → RWs K I th ws vs → RWs K I (th.take n) ws vs
  | [], _, _, h => h
  | w :: ws, _, b, ⟨v, r, h1, h2, h3⟩ => by
    rw [List.all_cons, Bool.and_eq_true] at b
    exact ⟨v, r, h1, h2.take b.1, RWs.take b.2 h3⟩
theorem Wd.Ok.take (o : κ.Ok K) {n : Nat} (h : clo n κ.c = true) : Wd.Ok K ⟨κ.I, κ.H, κ.th.take n, κ.c.take n⟩ := by
  refine ⟨o.ex, ?_, o.nd.sublist (List.take_sublist _ _), fun a m => o.off a (List.mem_of_mem_take m), fun m a k h1 h2 => ?_⟩
  · show (κ.th.take n).length = (κ.c.take n).length
    rw [List.length_take, List.length_take, o.len]
  · have g1 : (κ.th.take n)[m]? = some a := h1
    have g2 : (κ.c.take n)[m]? = some k := h2
    have bk : Cell.below n k = true := List.all_eq_true.mp h k (List.mem_of_getElem? g2)
    rw [List.getElem?_take] at g1 g2
    split at g1
    · rename_i hm
      rw [if_pos hm] at g2
      have ck := o.cl m a k g1 g2
      cases k with
      | lst l => exact ck
      | dic ks l => exact ck
      | xo R => exact ck
      | xw R ws => obtain ⟨x, vs, q1, q2, q3⟩ := ck; exact ⟨x, vs, q1, q2.take bk, q3⟩
      | ins C ns ws => obtain ⟨dx, vs, q1, q2, q3⟩ := ck; exact ⟨dx, vs, q1, q2, q3.take bk⟩
    · cases g1
theorem Wd.le.take {κ0 : Wd} (l : κ0.le κ) : κ0.le ⟨κ.I, κ.H, κ.th.take κ0.th.length, κ.c.take κ0.th.length⟩ := ⟨l.ii, fun n a h => by
  show (κ.th.take κ0.th.length)[n]? = some a
  rw [List.getElem?_take, if_pos (List.getElem?_eq_some_iff.mp h).1]; exact l.th n a h, l.fr, l.hd, l.nw, fun a h n => l.nt a (List.mem_of_mem_take h) n⟩
/-- a cell past n0 is beside what remains -/
theorem Wd.Ok.past {κ0 : Wd} (o : κ.Ok K) {n : Nat} {a : Addr} {u : HO} (hn : κ0.th.length ≤ n) (h : κ.th[n]? = some a) (hu : κ.H a = some u) : Side ⟨κ.I, κ.H, κ.th.take κ0.th.length, κ.c.take κ0.th.length⟩ a u where
  i := o.off a (List.mem_of_getElem? h)
  t := fun m => by
    obtain ⟨j, hj, e⟩ := List.getElem_of_mem m
    have hj' : j < (κ.th.take κ0.th.length).length := hj
    rw [List.length_take] at hj'
    have e2 : (κ.th.take κ0.th.length)[j]? = some a := by rw [List.getElem?_eq_getElem hj]; exact congrArg some e
    rw [List.getElem?_take, if_pos (by omega)] at e2
    obtain ⟨l1, e3⟩ := List.getElem?_eq_some_iff.mp e2
    obtain ⟨l2, e4⟩ := List.getElem?_eq_some_iff.mp h
    have := (List.getElem_inj o.nd).mp (e3.trans e4.symm)
    omega
  h := hu
theorem Wd.le.newer {κ0 : Wd} (l : κ0.le κ) (o : κ.Ok K) {n : Nat} {a : Addr} (hn : κ0.th.length ≤ n) (h : κ.th[n]? = some a) : κ0.H a = none := by
  refine l.nt a (List.mem_of_getElem? h) fun m => ?_
  obtain ⟨j, hj, e⟩ := List.getElem_of_mem m
  have e2 : κ0.th[j]? = some a := by rw [List.getElem?_eq_getElem hj, e]
  have e3 := l.th j a e2
  obtain ⟨l1, e4⟩ := List.getElem?_eq_some_iff.mp e3
  obtain ⟨l2, e5⟩ := List.getElem?_eq_some_iff.mp h
  have := (List.getElem_inj o.nd).mp (e4.trans e5.symm)
  omega
theorem Wd.le.adopt {κ0 : Wd} (l : κ0.le κ) {p : Addr} {u : HO} (s : Side κ p u) (h0 : κ0.H p = none) : κ0.le ⟨upd κ.I p u, κ.H, κ.th, κ.c⟩ where
  ii := l.ii.trans (Ex.new s.i)
  th := l.th
  fr := l.fr
  hd := l.hd
  nw := fun a h n => by
    show upd κ.I p u a = none
    have : a ≠ p := fun z => by subst z; exact h h0
    rw [upd_ne this]; exact l.nw a h n
  nt := l.nt
/-- the object beside becomes a cell -/
theorem Wd.Ok.enter (o : κ.Ok K) {p : Addr} {u : HO} {k : Cell} (s : Side κ p u) (hk : CellOk K κ.I κ.H (κ.th ++ [p]) p k) : Wd.Ok K ⟨κ.I, κ.H, κ.th ++ [p], κ.c ++ [k]⟩ where
  ex := o.ex
  len := by
    show (κ.th ++ [p]).length = (κ.c ++ [k]).length
    rw [List.length_append, List.length_append, o.len]; rfl
  nd := by
    show (κ.th ++ [p]).Nodup
    refine List.nodup_append.mpr ⟨o.nd, by simp, fun a ha b hb => ?_⟩
    have : b = p := by simpa using hb
    subst this
    intro z; subst z; exact s.t ha
  off := fun a h => by
    rcases List.mem_append.mp h with h | h
    · exact o.off a h
    · have : a = p := by simpa using h
      subst this; exact s.i
  cl := fun n a k' h1 h2 => by
    have g1 : (κ.th ++ [p])[n]? = some a := h1
    have g2 : (κ.c ++ [k])[n]? = some k' := h2
    clear h1 h2
    by_cases hn : n < κ.th.length
    · rw [List.getElem?_append_left hn] at g1
      rw [List.getElem?_append_left (by rw [← o.len]; exact hn)] at g2
      have ck := o.cl n a k' g1 g2
      cases k' with
      | lst l => exact ck
      | dic ks l => exact ck
      | xo R => exact ck
      | xw R ws =>
        obtain ⟨x, vs, q1, q2, q3⟩ := ck
        exact ⟨x, vs, q1, RWs.mono (Ex.refl _) (fun m b hb => by rw [List.getElem?_append_left (List.getElem?_eq_some_iff.mp hb).1]; exact hb) q2, q3⟩
      | ins C ns ws =>
        obtain ⟨dx, vs, q1, q2, q3⟩ := ck
        exact ⟨dx, vs, q1, q2, RWs.mono (Ex.refl _) (fun m b hb => by rw [List.getElem?_append_left (List.getElem?_eq_some_iff.mp hb).1]; exact hb) q3⟩
    · have hl := (List.getElem?_eq_some_iff.mp g1).1
      rw [List.length_append, List.length_singleton] at hl
      have e : n = κ.th.length := by omega
      subst e
      rw [List.getElem?_append_right (Nat.le_refl _), Nat.sub_self] at g1
      rw [List.getElem?_append_right (by rw [o.len]; exact Nat.le_refl _), o.len, Nat.sub_self] at g2
      have : p = a := by simpa using g1
      subst this
      have : k = k' := by simpa using g2
      subst this
      exact hk
theorem Wd.le.enter {κ0 : Wd} (l : κ0.le κ) {p : Addr} {u : HO} {k : Cell} (s : Side κ p u) (h0 : κ0.H p = none) : κ0.le ⟨κ.I, κ.H, κ.th ++ [p], κ.c ++ [k]⟩ where
  ii := l.ii
  th := fun n a h => by
    show (κ.th ++ [p])[n]? = some a
    have g := l.th n a h
    rw [List.getElem?_append_left (List.getElem?_eq_some_iff.mp g).1]; exact g
  fr := l.fr
  hd := l.hd
  nw := l.nw
  nt := fun a h n => by
    rcases List.mem_append.mp h with h | h
    · exact l.nt a h n
    · have : a = p := by simpa using h
      subst this; exact h0
end
/-! ### comprehensions -/
def wTs (X : Cx) (ifs : List Expr) : TT := fun σ H Q => ∀ (pins : List (Addr × Obj)) (s : Shared), Inv X pins σ H s →
    wpAny (model X.prog X.w) X.A (forIn ifs true fun c r => if r = true then do let ok ← isTrue c X.env (eval c X.env); pure (ForInStep.yield ok) else pure (ForInStep.yield r)) (TP X pins σ Q) X.xe s
theorem PTs.w {X : Cx} {ifs : List Expr} {t : TT} {σ : L2.St} {H : Hp} {Q : Bool → Hp → Prop} (h : PTs X ifs t) (q : t σ H Q) : wTs X ifs σ H Q := fun pins s I => h.run pins s σ H Q I q
/-- where a block stands -/
structure Blk where
  s : Shared
  H : Hp
  C : Addr
  cl : List (Str × Addr)
  fp : List Addr
def Cy.blk (Y : Cy) (scope : Scope) (b : Blk) : Cy where
  X := Y.X.blk b.s b.H scope (compEnvC scope b.cl b.C Y.X.env) b.fp
  Wx := fun _ _ _ _ => False
  tk := takes0
  po := PassesOwn.never
  Qx := fun _ _ _ => False
def WTs (Y : Cy) (ρ : Ρ) (c : List Cell) (ifs : List Expr) (Q : Bool → List Cell → Prop) : Prop := ∀ κ σ, κ.c = c → κ.Ok Y.X.K → REnv Y.X.K κ σ ρ → GoX Y κ σ ρ → ∀ Q', GoT Y κ Q' Q → wTs Y.X ifs σ κ.H Q'
section
variable {Y : Cy} {ρ : Ρ} {c : List Cell} {Q : KQ} {QT : Bool → List Cell → Prop}
theorem wts_nil (q : QT true c) : WTs Y ρ c [] QT := fun κ σ hc o r g Q' G => PTs.w pts_nil (G true κ (.refl _) o (by rw [hc]; exact q))
theorem wts_one {e : Expr} (h : WT Y ρ c e QT) : WTs Y ρ c [e] QT := fun κ σ hc o r g Q' G => PTs.w (pts_one pt_w) (h κ σ hc o r g Q' G)
theorem GoX.blk {scope : Scope} {b : Blk} {κ : Wd} {σ : L2.St} {ρ : Ρ} : GoX (Y.blk scope b) κ σ ρ := ⟨fun _ _ _ _ _ _ _ q => q.elim⟩
/-- what a comprehension asks -/
def LcAsk (Y : Cy) (ρ : Ρ) (scope : Scope) (vs : List Nat) (t : Tgt) (ifs : List Expr) (elt : Expr) (Q : List D → List Cell → Prop) (ds : List D) (c1 : List Cell) : Prop :=
  ∃ P : Nat → List D → List Cell → Prop, P 0 [] c1 ∧
    (∀ i d acc c', ds[i]? = some d → P i acc c' → acc.length < 1000000 ∧ t.fits d ∧ ∀ b : Blk, WTs (Y.blk scope b) (t.bind (wipeW ρ vs) d) c' ifs fun k c2 =>
      if k = true then ∀ b : Blk, WE (Y.blk scope b) (t.bind (wipeW ρ vs) d) c2 elt fun w c3 => ∃ e, w = .im e ∧ P (i + 1) (acc ++ [e]) c3 else P (i + 1) acc c2) ∧
    ∀ acc c', P ds.length acc c' → Q acc c'
theorem lc_sem {elt tg iter : Expr} {ifs : List Expr} {scope : Scope} {vs : List Nat} {t : Tgt} {QL : List D → List Cell → Prop} {κ : Wd} {σ : L2.St} (hv : ∀ i ∈ t.slots, i ∈ vs)
    (h : WI Y ρ c tg iter (LcAsk Y ρ scope vs t ifs elt QL)) (hc : κ.c = c) (o : κ.Ok Y.X.K) (r : REnv Y.X.K κ σ ρ) (g : GoX Y κ σ ρ) {Q' : VK}
    (G : ∀ p xs l κ', κ.le κ' → κ'.Ok Y.X.K → Side κ' p (.lst xs) → κ.H p = none → Rps Y.X.K κ'.I l xs → QL l κ'.c → Q' (.ref p) κ'.H) :
    tLc (wI Y.X tg iter) (t.g Y.X.K) (fun σ H Q => ∀ b : Blk, wTs (Y.blk scope b).X ifs σ H Q) (fun σ H Q => ∀ b : Blk, wE (Y.blk scope b).X elt σ H Q) vs σ κ.H Q' := by
  refine h κ σ hc o r g _ fun J ds κ1 l1 o1 it ⟨P, p0, turn, fin⟩ => fun Dl hD => ?_
  have hD0 : κ.H Dl = none := by
    cases q : κ.H Dl with
    | none => rfl
    | some x => exact absurd hD (l1.hd Dl (by rw [q]; intro z; cases z))
  refine ⟨fun i m H' => m = ds.length - i ∧ i ≤ ds.length ∧ ∃ κ' acc xs, κ1.le κ' ∧ κ'.Ok Y.X.K ∧ Side κ' Dl (.lst xs) ∧ Rps Y.X.K κ'.I acc xs ∧ P i acc κ'.c ∧ κ'.H = H',
    ⟨ds.length, by simp, Nat.zero_le _, ⟨κ1.I, upd κ1.H Dl (.lst []), κ1.th, κ1.c⟩, [], [], Wd.aux_le hD, o1.aux hD, Side.new o1 hD, Rps.nil, p0, rfl⟩, ?_⟩
  rintro i m H' ⟨rfl, hi, κ', acc, xs, l', o', s', ra, p, rfl⟩
  by_cases hlt : i < ds.length
  · have hd : ds[i]? = some ds[i] := List.getElem?_eq_getElem hlt
    refine .inr ⟨it.go κ' l'.ii o' i hlt, fun H2 => ∃ κ2 acc xs, κ1.le κ2 ∧ κ2.Ok Y.X.K ∧ Side κ2 Dl (.lst xs) ∧ Rps Y.X.K κ2.I acc xs ∧ P (i + 1) acc κ2.c ∧ κ2.H = H2, fun H2 ⟨κ2, acc2, xs2, a1, a2, a3, a4, a5, a6⟩ => ⟨ds.length - (i + 1), by omega, rfl, hlt, κ2, acc2, xs2, a1, a2, a3, a4, a5, a6⟩, fun x H2 y => ?_⟩
    obtain ⟨κ2, l2, o2, rfl, ec, rp⟩ := it.yld κ' l'.ii o' i _ x H2 hd y
    obtain ⟨hz, hf, hb⟩ := turn i _ acc κ2.c hd (by rw [ec]; exact p)
    have r2 : REnv Y.X.K κ2 (L2.wipe σ vs) (wipeW ρ vs) := (r.le ((l1.trans l').trans l2)).wipe vs
    refine Tgt.go hf o2 rp r2 fun σ3 hw r3 => ⟨by rw [hw vs hv, wipe_wipe], fun b => ?_⟩
    refine hb b κ2 σ3 rfl o2 r3 GoX.blk _ fun k κ3 l3 o3 q => ?_
    cases k with
    | true =>
      intro b2
      refine q b2 κ3 σ3 rfl o3 (r3.le l3) GoX.blk _ fun v w κ4 l4 o4 rw4 ⟨e, ew, q4⟩ => ?_
      subst ew
      have s4 := ((s'.le l2).le l3).le l4
      refine ⟨xs, s4.h, by rw [ra.len]; exact Nat.lt_of_lt_of_le hz (by decide), ?_⟩
      obtain ⟨o5, s5⟩ := o4.side (u' := .lst (xs ++ [v])) s4
      exact ⟨⟨κ4.I, upd κ4.H Dl (.lst (xs ++ [v])), κ4.th, κ4.c⟩, acc ++ [e], xs ++ [v], Wd.le.side (((l'.trans l2).trans l3).trans l4) s4 hD, o5, s5, Rps.snoc (Rps.ex ((l2.trans l3).trans l4).ii _ ra) rw4, q4, rfl⟩
    | false => exact ⟨κ3, acc, xs, (l'.trans l2).trans l3, o3, (s'.le l2).le l3, Rps.ex (l2.trans l3).ii _ ra, q, rfl⟩
  · have e : i = ds.length := by omega
    subst e
    exact .inl ⟨it.stop κ' l'.ii o', G Dl xs acc κ' (l1.trans l') o' s' hD0 ra (fin acc κ'.c p)⟩
theorem we_lc {elt tg iter : Expr} {ifs : List Expr} {scope : Scope} {own : List (Str × Nat)} {pos : Pos} (t : Tgt) (hcm : Y.X.calm = true) (hN : Y.X.N.Nodup) (ok : BlkOk Y.X.N Y.X.env.scope scope own) (hv : ∀ i ∈ t.slots, i ∈ own.map (·.2))
    (hg : ∀ b : Blk, PG (Y.blk scope b).X tg (t.g Y.X.K)) (h : WI Y ρ c tg iter (LcAsk Y ρ scope (own.map (·.2)) t ifs elt fun l c' => Q (.im (.lst l)) c')) (hs : ∀ x, foldedSetIterable iter Y.X.env x = pure x := by intro _; rfl) :
    WE Y ρ c (.ListComp elt [⟨tg, iter, ifs, 0⟩] scope pos) Q := fun κ σ hc o r g Q' G =>
  PE.w (pe_lc hcm hN pi_w ok (fun s H C cl fp => hg ⟨s, H, C, cl, fp⟩) (fun s H C cl fp => ⟨fun pins s1 σ1 H1 Q1 I1 h1 => h1 ⟨s, H, C, cl, fp⟩ pins s1 I1⟩) (fun s H C cl fp => ⟨fun pins s1 σ1 H1 Q1 I1 h1 => h1 ⟨s, H, C, cl, fp⟩ pins s1 I1⟩) hs)
    (lc_sem hv h hc o r g fun p xs l κ' l' o' s' hp rl q => by
      obtain ⟨o2, ee⟩ := o'.adopt s'
      exact G (.ref p) (.im (.lst l)) ⟨upd κ'.I p (.lst xs), κ'.H, κ'.th, κ'.c⟩ (l'.adopt s' hp) o2 ⟨p, xs, rfl, upd_same, Rps.ex ee l rl⟩ q)
/-- name = [..] on one line -/
theorem ws_setLc {n0 : Nat} {Z : EndsW} {i : Nat} {y : Str} {py : Pos} {elt tg iter : Expr} {ifs : List Expr} {scope : Scope} {own : List (Str × Nat)} {pos spos : Pos} (t : Tgt) (hcm : Y.X.calm = true) (hN : Y.X.N.Nodup) (hi : Y.X.N.idxOf? y = some i) (ok : BlkOk Y.X.N Y.X.env.scope scope own) (hv : ∀ i ∈ t.slots, i ∈ own.map (·.2))
    (hg : ∀ b : Blk, PG (Y.blk scope b).X tg (t.g Y.X.K)) (h : WI Y ρ c tg iter (LcAsk Y ρ scope (own.map (·.2)) t ifs elt fun l c' => Z.nx (ρ.set i (some (.im (.lst l)))) c'))
    (hsw : swapsWith (.ListComp elt [⟨tg, iter, ifs, 0⟩] scope pos) (some (.Name y py)) spos.line Y.X.env = pure true) (hyl : Y.X.env.scope.names.lookup y = some .local := by rfl) (hs : ∀ x, foldedSetIterable iter Y.X.env x = pure x := by intro _; rfl) :
    WS Y n0 ρ c (.Assign [.Name y py] (.ListComp elt [⟨tg, iter, ifs, 0⟩] scope pos) spos) Z := fun κ0 κ σ h0 l hc o r De E =>
  PS.w (ps_setLc hcm hN (ix_of hi) hyl hsw pi_w ok (fun s H C cl fp => hg ⟨s, H, C, cl, fp⟩) (fun s H C cl fp => ⟨fun pins s1 σ1 H1 Q1 I1 h1 => h1 ⟨s, H, C, cl, fp⟩ pins s1 I1⟩) (fun s H C cl fp => ⟨fun pins s1 σ1 H1 Q1 I1 h1 => h1 ⟨s, H, C, cl, fp⟩ pins s1 I1⟩) hs)
    (lc_sem (Q' := fun x H1 => gName i x σ H1 De.nx) hv h hc o r (E.gox l r) fun p xs l1 κ' l' o' s' hp rl q => by
      obtain ⟨o2, ee⟩ := o'.adopt s'
      have l2 := l'.adopt s' hp
      exact E.nx _ ⟨upd κ'.I p (.lst xs), κ'.H, κ'.th, κ'.c⟩ _ (l.trans l2) o2 ((r.le l2).set (show RW Y.X.K _ _ (.im (.lst l1)) (.ref p) from ⟨p, xs, rfl, upd_same, Rps.ex ee l1 rl⟩)) q)
end
end WL
/-! Defs, their promises and calls; raise; try. -/
namespace WL
open PySem PySem.Spec PyProof.Rows L2
/-! ### promises -/
/-- a def: from its arguments and the cells to what follows, what is raised -/
abbrev FSp := List W → List Cell → KQ → (Exn → List Cell → Prop) → Prop
def spOf (K : PySem.W.Frag) (F : FSp) : Sp := fun vs H Q E => ∃ (κ : Wd) (ws : List W), κ.H = H ∧ κ.Ok K ∧ RWs K κ.I κ.th ws vs ∧ ∃ (Qw : KQ) (Qx : Exn → List Cell → Prop), F ws κ.c Qw Qx ∧
  (∀ v w (κ' : Wd), κ.le κ' → κ'.Ok K → RW K κ'.I κ'.th w v → Qw w κ'.c → Q v κ'.H) ∧ (∀ x C d (κ' : Wd), κ.le κ' → κ'.Ok K → RX K κ' x C d → Qx x κ'.c → E C d κ'.H)
/-- what a def's end asks: its own cells go -/
def RtOk (n0 : Nat) (Q : KQ) (w : W) (c : List Cell) : Prop :=
  (∃ d, w = .im d ∧ clo n0 c = true ∧ Q (.im d) (c.take n0)) ∨ (∃ n l, w = .ce n ∧ n0 ≤ n ∧ c[n]? = some (.lst l) ∧ clo n0 c = true ∧ Q (.im (.lst l)) (c.take n0)) ∨
  (∃ n ks l, w = .ce n ∧ n0 ≤ n ∧ c[n]? = some (.dic ks l) ∧ clo n0 c = true ∧ Q (.im (.dic ks l)) (c.take n0)) ∨
  (∃ n l, w = .ce n ∧ n0 ≤ n ∧ c[n]? = some (.lst l) ∧ clo n0 c = true ∧ Q (.ce n0) (c.take n0 ++ [.lst l])) ∨
  (∃ n ks l, w = .ce n ∧ n0 ≤ n ∧ c[n]? = some (.dic ks l) ∧ clo n0 c = true ∧ Q (.ce n0) (c.take n0 ++ [.dic ks l])) ∨
  (∃ n C ns l, w = .ce n ∧ n0 ≤ n ∧ c[n]? = some (.ins C ns (l.map W.im)) ∧ clo n0 c = true ∧ Q (.im (.obj C ns l)) (c.take n0)) ∨ Q w c
theorem RtOk.im {n0 : Nat} {Q : KQ} {d : D} {c : List Cell} (q : Q (.im d) (c.take n0)) (h : clo n0 c = true := by rfl) : RtOk n0 Q (.im d) c := .inl ⟨d, rfl, h, q⟩
theorem RtOk.lst {n0 n : Nat} {Q : KQ} {l : List D} {c : List Cell} (hc : c[n]? = some (.lst l)) (q : Q (.im (.lst l)) (c.take n0)) (hn : n0 ≤ n := by first | omega | decide) (h : clo n0 c = true := by rfl) : RtOk n0 Q (.ce n) c := .inr (.inl ⟨n, l, rfl, hn, hc, h, q⟩)
theorem RtOk.dic {n0 n : Nat} {Q : KQ} {ks : List Key} {l : List D} {c : List Cell} (hc : c[n]? = some (.dic ks l)) (q : Q (.im (.dic ks l)) (c.take n0)) (hn : n0 ≤ n := by first | omega | decide) (h : clo n0 c = true := by rfl) : RtOk n0 Q (.ce n) c := .inr (.inr (.inl ⟨n, ks, l, rfl, hn, hc, h, q⟩))
theorem RtOk.newL {n0 n : Nat} {Q : KQ} {l : List D} {c : List Cell} (hc : c[n]? = some (.lst l)) (q : Q (.ce n0) (c.take n0 ++ [.lst l])) (hn : n0 ≤ n := by first | omega | decide) (h : clo n0 c = true := by rfl) : RtOk n0 Q (.ce n) c := .inr (.inr (.inr (.inl ⟨n, l, rfl, hn, hc, h, q⟩)))
theorem RtOk.newD {n0 n : Nat} {Q : KQ} {ks : List Key} {l : List D} {c : List Cell} (hc : c[n]? = some (.dic ks l)) (q : Q (.ce n0) (c.take n0 ++ [.dic ks l])) (hn : n0 ≤ n := by first | omega | decide) (h : clo n0 c = true := by rfl) : RtOk n0 Q (.ce n) c := .inr (.inr (.inr (.inr (.inl ⟨n, ks, l, rfl, hn, hc, h, q⟩))))
theorem RtOk.obj {n0 n : Nat} {Q : KQ} {C : Addr} {ns : List Str} {l : List D} {c : List Cell} (hc : c[n]? = some (.ins C ns (l.map W.im))) (q : Q (.im (.obj C ns l)) (c.take n0)) (hn : n0 ≤ n := by first | omega | decide) (h : clo n0 c = true := by rfl) : RtOk n0 Q (.ce n) c := .inr (.inr (.inr (.inr (.inr (.inl ⟨n, C, ns, l, rfl, hn, hc, h, q⟩)))))
theorem RtOk.all {n0 : Nat} {Q : KQ} {w : W} {c : List Cell} (q : Q w c) : RtOk n0 Q w c := .inr (.inr (.inr (.inr (.inr (.inr q)))))
theorem RtOk.fin {K : PySem.W.Frag} {κ0 κ : Wd} {Q : KQ} {w : W} {v : V} {Q' : V → Hp → Prop} (l : κ0.le κ) (o : κ.Ok K) (rw_ : RW K κ.I κ.th w v) (h : RtOk κ0.th.length Q w κ.c)
    (k : ∀ v w κ', κ0.le κ' → κ'.Ok K → RW K κ'.I κ'.th w v → Q w κ'.c → Q' v κ'.H) : Q' v κ.H := by
  have at0 : ∀ {κ' : Wd}, κ0.le κ' → (κ'.th.take κ0.th.length).length = κ0.th.length := fun {κ'} l' => by
    rw [List.length_take, Nat.min_eq_left]
    cases hz : κ0.th.length with
    | zero => exact Nat.zero_le _
    | succ m =>
      have h1 : m < κ0.th.length := by omega
      have := l'.th m _ (List.getElem?_eq_getElem h1)
      exact (List.getElem?_eq_some_iff.mp this).1
  rcases h with ⟨d, rfl, hc, q⟩ | ⟨n, xs, rfl, hn, hk, hc, q⟩ | ⟨n, ks, xs, rfl, hn, hk, hc, q⟩ | ⟨n, xs, rfl, hn, hk, hc, q⟩ | ⟨n, ks, xs, rfl, hn, hk, hc, q⟩ | ⟨n, C, ns, xs, rfl, hn, hk, hc, q⟩ | q
  · exact k v (.im d) ⟨κ.I, κ.H, κ.th.take κ0.th.length, κ.c.take κ0.th.length⟩ l.take (o.take hc) rw_ q
  · obtain ⟨a, ha, rfl⟩ := rw_
    obtain ⟨vs, g1, g2⟩ := o.cl n a _ ha hk
    have s := o.past (κ0 := κ0) hn ha g1
    obtain ⟨o2, ee⟩ := (o.take hc).adopt s
    exact k (.ref a) (.im (.lst xs)) ⟨upd κ.I a (.lst vs), κ.H, κ.th.take κ0.th.length, κ.c.take κ0.th.length⟩ (l.take.adopt s (l.newer o hn ha)) o2 ⟨a, vs, rfl, upd_same, Rps.ex ee xs g2⟩ q
  · obtain ⟨a, ha, rfl⟩ := rw_
    obtain ⟨vs, g1, g3, g2⟩ := o.cl n a _ ha hk
    have s := o.past (κ0 := κ0) hn ha g1
    obtain ⟨o2, ee⟩ := (o.take hc).adopt s
    exact k (.ref a) (.im (.dic ks xs)) ⟨upd κ.I a (.dK (ks.zip vs)), κ.H, κ.th.take κ0.th.length, κ.c.take κ0.th.length⟩ (l.take.adopt s (l.newer o hn ha)) o2 ⟨a, vs, rfl, upd_same, g3, Rps.ex ee xs g2⟩ q
  · obtain ⟨a, ha, rfl⟩ := rw_
    obtain ⟨vs, g1, g2⟩ := o.cl n a _ ha hk
    have s := o.past (κ0 := κ0) hn ha g1
    exact k (.ref a) (.ce κ0.th.length) ⟨κ.I, κ.H, κ.th.take κ0.th.length ++ [a], κ.c.take κ0.th.length ++ [.lst xs]⟩ (l.take.enter s (l.newer o hn ha)) ((o.take hc).enter s (show CellOk K _ _ _ a (.lst xs) from ⟨vs, g1, g2⟩)) ⟨a, by rw [List.getElem?_append_right (by rw [at0 l]; exact Nat.le_refl _), at0 l]; simp, rfl⟩ q
  · obtain ⟨a, ha, rfl⟩ := rw_
    obtain ⟨vs, g1, g3, g2⟩ := o.cl n a _ ha hk
    have s := o.past (κ0 := κ0) hn ha g1
    exact k (.ref a) (.ce κ0.th.length) ⟨κ.I, κ.H, κ.th.take κ0.th.length ++ [a], κ.c.take κ0.th.length ++ [.dic ks xs]⟩ (l.take.enter s (l.newer o hn ha)) ((o.take hc).enter s (show CellOk K _ _ _ a (.dic ks xs) from ⟨vs, g1, g3, g2⟩)) ⟨a, by rw [List.getElem?_append_right (by rw [at0 l]; exact Nat.le_refl _), at0 l]; simp, rfl⟩ q
  · obtain ⟨a, ha, rfl⟩ := rw_
    obtain ⟨dx, vs, g1, g3, g2⟩ := o.cl n a _ ha hk
    have s := o.past (κ0 := κ0) hn ha g1
    obtain ⟨o2, ee⟩ := (o.take hc).adopt s
    exact k (.ref a) (.im (.obj C ns xs)) ⟨upd κ.I a (.ins C dx (ns.zip vs)), κ.H, κ.th.take κ0.th.length, κ.c.take κ0.th.length⟩ (l.take.adopt s (l.newer o hn ha)) o2 ⟨a, dx, vs, rfl, upd_same, g3, Rps.ex ee xs (RWs.im (ims_map xs) g2)⟩ q
  · exact k v w κ l o rw_ q
/-- new cells become data -/
theorem we_frz {Y : Cy} {ρ : Ρ} {c : List Cell} {Q : KQ} {e : Expr} (h : WE Y ρ c e (RtOk c.length Q)) : WE Y ρ c e Q := fun κ σ hc o r g Q' G =>
  h κ σ hc o r g Q' fun v w κ' l' o' rw' q => RtOk.fin (Q' := Q') (κ0 := κ) l' o' rw' (by rw [o.len, hc]; exact q) G
/-- a def's body: the context -/
def cyF (P : Program) (w : World) (K : PySem.W.Frag) (mg : Str → Option Value) (base : Heap) (N : List Str) (qual : Str) (scope : Scope) (f : Addr) (cd : Value) (A : Around) (outer : List Env) (s : Shared) (H : Hp) (E : XK) (n0 : Nat) (Qx : Exn → List Cell → Prop) : Cy where
  X := cxOf (L2.CX P w) P w K mg base N qual scope f cd A outer s H E
  Wx := fun cls d _ H => E cls d H
  tk := takes_of rfl rfl rfl rfl
  po := passes_of rfl
  Qx := fun x _ c => clo n0 c = true ∧ Qx x (c.take n0)
theorem start_env {K : PySem.W.Frag} {κ : Wd} {N : List Str} {ws : List W} {vs : List V} (r : RWs K κ.I κ.th ws vs) : REnv K κ (L2.start N vs) (ws.map some ++ List.replicate (N.length - ws.length) none) := by
  have hl := r.len
  refine ⟨by unfold L2.start; simp [hl], fun i w h => ?_⟩
  by_cases hi : i < ws.length
  · rw [List.getElem?_append_left (by simpa using hi), List.getElem?_map] at h
    have h2 : ws[i]? = some w := by
      cases q : ws[i]? with
      | none => rw [q] at h; simp at h
      | some x => rw [q] at h; simpa using h
    obtain ⟨v, g1, g2⟩ := r.get h2
    refine ⟨v, ?_, g2⟩
    unfold L2.start
    rw [List.getElem?_append_left (by simpa [hl] using hi), List.getElem?_map, g1]
    rfl
  · rw [List.getElem?_append_right (by simpa using Nat.le_of_not_lt hi)] at h
    rw [List.getElem?_replicate] at h
    split at h <;> simp at h
section
variable {P : Program} {w : World} {K : PySem.W.Frag} {mg : Str → Option Value} {base : Heap}
/-- THE RULE of a def -/
theorem fn_w {x qual : Str} {st : Stmt} {f : Addr} {fd : FuncData} {N ps : List Str} {k : Nat} {F : FSp} (Fu : Fun K x qual st f fd) (S : FnScope N ps (defScope st)) (hl : ∀ ws c Q E, F ws c Q E → ws.length = ps.length)
    (body : ∀ (cdv : Value) (A : Around) (outer : List Env) (s : Shared) (H : Hp) (E : XK) (ws : List W) (c : List Cell) (Q : KQ) (Qx : Exn → List Cell → Prop), Room k (A.deeper (envOfC qual (defScope st) s.heap.objs.size f cdv)) → F ws c Q Qx →
      WSs (cyF P w K mg base N qual (defScope st) f cdv A outer s H E c.length Qx) c.length (ws.map some ++ List.replicate (N.length - ws.length) none) c (defBody st) { nx := fun _ c' => RtOk c.length Q (.im .non) c', rt := RtOk c.length Q }) :
    FnOk P w K mg base (L2.CX P w) (k + 1) f fd ps (spOf K F) := by
  refine Fu.okX S (fun vs H Q E h => ?_) (fun cdv A outer s H vs Q E hr h => ?_)
  · obtain ⟨κ, ws, _, _, r, Qw, Qx, hF, _⟩ := h
    rw [r.len]; exact hl _ _ _ _ hF
  · obtain ⟨κ, ws, rfl, o, r, Qw, Qx, hF, kq, kx⟩ := h
    have hb := body cdv A outer s κ.H E ws κ.c Qw Qx hr hF
    have hn : κ.th.length = κ.c.length := o.len
    refine ⟨wSs (cyF P w K mg base N qual (defScope st) f cdv A outer s κ.H E κ.c.length Qx).X (defBody st), pss_w, ?_⟩
    refine hb κ κ (L2.start N vs) hn (.refl _) rfl o (start_env r) _ ⟨fun σ' κ' ρ' l' o' r' q => ?_, fun v w' κ' l' o' rw' q => ?_, fun _ _ _ _ _ _ q => q.elim, fun _ _ _ _ _ _ q => q.elim, fun x C d σ' κ' ρ' l' o' r' rx q => ?_⟩
    · rw [← hn] at q
      exact RtOk.fin (Q' := Q) l' o' (show RW K κ'.I κ'.th (.im .non) .non from rfl) q kq
    · rw [← hn] at q
      exact RtOk.fin (Q' := Q) l' o' rw' q kq
    · obtain ⟨hc, q⟩ := q
      rw [← hn] at q hc
      exact kx x C d ⟨κ'.I, κ'.H, κ'.th.take κ.th.length, κ'.c.take κ.th.length⟩ l'.take (o'.take hc) rx q
/-- a def stands under its name -/
structure HasFn (P : Program) (w : World) (K : PySem.W.Frag) (mg : Str → Option Value) (base : Heap) (k : Nat) (x : Str) (ps : List Str) (F : FSp) : Prop where
  ex : ∃ (f : Addr) (fd : FuncData), mg x = some (.ref f) ∧ PySem.W.keepIn K (.ref f) = true ∧ FnOk P w K mg base (L2.CX P w) k f fd ps (spOf K F) ∧ Binds K fd ps []
end
/-! ### calls -/
section
variable {Y : Cy} {ρ : Ρ} {c : List Cell} {Q : KQ}
theorem sp_go {F : FSp} {κ1 : Wd} {σ : L2.St} {ws : List W} {vs : List V} {Q' : VK} (g1 : GoX Y κ1 σ ρ) (o1 : κ1.Ok Y.X.K) (rws : RWs Y.X.K κ1.I κ1.th ws vs) (q : F ws κ1.c Q fun x c2 => Y.Qx x ρ c2) (G : GoV Y κ1 Q' Q) :
    spOf Y.X.K F vs κ1.H Q' (L2.WE Y.Wx σ) := ⟨κ1, ws, rfl, o1, rws, Q, fun x c2 => Y.Qx x ρ c2, q, G, fun x C d κ' l' o' rx q' => g1.ex x C d κ' l' o' rx q'⟩
theorem we_call {k : Nat} {x : Str} {ps : List Str} {F : FSp} {p pos : Pos} {e : Expr} {es : List Expr} (hf : HasFn Y.X.prog Y.X.w Y.X.K Y.X.mg Y.X.base k x ps F) (hr : Room k Y.X.A) (hg : Gl Y.X x)
    (h : WA Y ρ c (e :: es) fun ws c1 => F ws c1 Q fun x c2 => Y.Qx x ρ c2) (hdb : (x == ("__debug__" : Str)) = false := by decide) (he : starEach (e :: es) Y.X.env = (false, eval e Y.X.env) :: starEach es Y.X.env := by rfl) (hpl : (backTo pos (starEach es Y.X.env)).any (·.1) = false := by rfl) :
    WE Y ρ c (.Call (.Name x p) (e :: es) [] pos) Q := fun κ σ hc o r g Q' G => by
  obtain ⟨f, fd, hm, hk, hF, hb⟩ := hf.ex
  refine PE.w (pe_callSD hF hr hg hm hk hb .nil (E := L2.WE Y.Wx) (passAt Y.tk) pa_w hdb he hpl) (h.bind hc o r g fun vs ws κ1 l1 o1 r1 g1 rws q => ?_)
  show spOf Y.X.K F (vs ++ []) κ1.H Q' (L2.WE Y.Wx σ)
  rw [List.append_nil]
  exact sp_go g1 o1 rws q (GoV.le G l1)
/-- a built-in, a built-in class -/
theorem we_callB {id : String} {x : Str} {p pos : Pos} {e : Expr} {es : List Expr} (hg : Gl Y.X x) (hm : Y.X.mg x = none) (hv : bootBuiltins x = some (.builtin id)) (h : WA Y ρ c (e :: es) fun ws c1 => WC Y (.builtin id) ws c1 Q)
    (hn : x ≠ "__name__" := by decide) (hdb : (x == ("__debug__" : Str)) = false := by decide) (he : starEach (e :: es) Y.X.env = (false, eval e Y.X.env) :: starEach es Y.X.env := by rfl) (hpl : (backTo pos (starEach es Y.X.env)).any (·.1) = false := by rfl) :
    WE Y ρ c (.Call (.Name x p) (e :: es) [] pos) Q := fun κ σ hc o r g Q' G =>
  PE.w (pe_callB call_w hg hm hv pa_w hn hdb he hpl) (h.bind hc o r g fun vs ws κ1 l1 o1 r1 g1 rws q => q κ1 vs rfl o1 rws Q' (GoV.le G l1))
theorem we_callTy {T : String} {x : Str} {p pos : Pos} {e : Expr} {es : List Expr} (hg : Gl Y.X x) (hm : Y.X.mg x = none) (hv : bootBuiltins x = some (.type T)) (h : WA Y ρ c (e :: es) fun ws c1 => WC Y (.type T) ws c1 Q)
    (hn : x ≠ "__name__" := by decide) (hdb : (x == ("__debug__" : Str)) = false := by decide) (he : starEach (e :: es) Y.X.env = (false, eval e Y.X.env) :: starEach es Y.X.env := by rfl) (hpl : (backTo pos (starEach es Y.X.env)).any (·.1) = false := by rfl) :
    WE Y ρ c (.Call (.Name x p) (e :: es) [] pos) Q := fun κ σ hc o r g Q' G =>
  PE.w (pe_callTy call_w hg hm hv pa_w hn hdb he hpl) (h.bind hc o r g fun vs ws κ1 l1 o1 r1 g1 rws q => q κ1 vs rfl o1 rws Q' (GoV.le G l1))
/-- a subscript, a slice -/
theorem we_ix {a b : Expr} {pos : Pos} (h : WE Y ρ c a fun w1 c1 => WE Y ρ c1 b fun w2 c2 => WIx Y w1 w2 c2 Q) (hs : PlainIx b := by intro _ _; rfl) : WE Y ρ c (.Subscript a b pos) Q := fun κ σ hc o r g Q' G =>
  PE.w (pe_ix ix_w pe_w pe_w hs) (h.bind hc o r g fun v1 w1 κ1 l1 o1 r1 g1 rw1 q1 => q1.bind rfl o1 r1 g1 fun v2 w2 κ2 l2 o2 r2 g2 rw2 q2 => q2 κ2 v1 v2 rfl o2 (rw1.le l2) rw2 Q' (GoV.le G (l1.trans l2)))
end
end WL
/-! Operators, built-ins, subscripts and methods over plain data. -/
namespace WL
open PySem PySem.Spec PyProof.Rows L2
/-! ### == of data -/
mutual
def deq : D → D → Bool
  | .non, .non => true
  | .bl a, .bl b => a == b
  | .bl a, .int j => (if a then 1 else 0) == j
  | .int i, .bl b => i == (if b then 1 else 0)
  | .int i, .int j => i == j
  | .str x, .str y => x == y
  | .lst a, .lst b => deqs a b
  | .tup a, .tup b => deqs a b
  | _, _ => false
def deqs : List D → List D → Bool
  | [], [] => true
  | x :: xs, y :: ys => deq x y && deqs xs ys
  | _, _ => false
end
mutual
def D.py : D → PyData
  | .non => .none
  | .bl b => .bool b
  | .int i => .int i
  | .str x => .str x
  | .lst l => .list (pys l)
  | .tup l => .tuple (pys l)
  | _ => .dict []
def pys : List D → List PyData
  | [] => []
  | d :: ds => d.py :: pys ds
end
mutual
theorem eqv_py : ∀ d e : D, PyData.eqv d.py e.py = deq d e
  | .non, e => by cases e <;> rfl
  | .bl b, e => by cases e <;> rfl
  | .int i, e => by cases e <;> rfl
  | .str x, e => by cases e <;> rfl
  | .lst l, e => by
    cases e with
    | lst m => exact eqv_pys l m
    | _ => rfl
  | .tup l, e => by
    cases e with
    | tup m => exact eqv_pys l m
    | _ => rfl
  | .scr l, e => by cases e <;> rfl
  | .obj _ _ _, e => by cases e <;> rfl
  | .dic _ _, e => by cases e <;> rfl
  | .dct _ _, e => by cases e <;> rfl
  | .ty _, e => by cases e <;> rfl
  | .cls _, e => by cases e <;> rfl
theorem eqv_pys : ∀ l m : List D, PyData.eqvAll (pys l) (pys m) = deqs l m
  | [], [] => rfl
  | [], _ :: _ => rfl
  | _ :: _, [] => rfl
  | x :: xs, y :: ys => by
    show (PyData.eqv x.py y.py && PyData.eqvAll (pys xs) (pys ys)) = (deq x y && deqs xs ys)
    rw [eqv_py x y, eqv_pys xs ys]
end
/-- data without objects, at most n deep -/
def Pn : Nat → D → Prop
  | _, .non => True
  | _, .bl _ => True
  | _, .int _ => True
  | _, .str x => PyData.strOk x = true
  | n + 1, .lst l => ∀ x ∈ l, Pn n x
  | n + 1, .tup l => ∀ x ∈ l, Pn n x
  | _, _ => False
theorem Pn.up : ∀ {n : Nat} {d : D}, Pn n d → Pn (n + 1) d
  | _, .non, _ => by simp [Pn]
  | _, .bl _, _ => by simp [Pn]
  | _, .int _, _ => by simp [Pn]
  | _, .str x, h => by simpa [Pn] using h
  | 0, .lst l, h => by simp [Pn] at h
  | 0, .tup l, h => by simp [Pn] at h
  | n + 1, .lst l, h => fun x hx => Pn.up (h x hx)
  | n + 1, .tup l, h => fun x hx => Pn.up (h x hx)
  | _, .scr _, h => by simp [Pn] at h
  | _, .obj _ _ _, h => by simp [Pn] at h
  | _, .dic _ _, h => by simp [Pn] at h
  | _, .dct _ _, h => by simp [Pn] at h
  | _, .ty _, h => by simp [Pn] at h
  | _, .cls _, h => by simp [Pn] at h
theorem Pn.mono {n m : Nat} {d : D} (h : Pn n d) (l : n ≤ m) : Pn m d := by
  induction l with
  | refl => exact h
  | step _ ih => exact ih.up
theorem Pn.sh : ∀ (n : Nat) (d : D), Pn n d → d.py.canLay0 = true ∧ d.py.depth ≤ n := by
  have ls : ∀ (n : Nat), (∀ d, Pn n d → d.py.canLay0 = true ∧ d.py.depth ≤ n) → ∀ l : List D, (∀ x ∈ l, Pn n x) → PyData.canLayAll0 (pys l) = true ∧ PyData.depthAll (pys l) ≤ n := by
    intro n ih l
    induction l with
    | nil => intro _; exact ⟨rfl, Nat.zero_le _⟩
    | cons x xs ihl =>
      intro h
      obtain ⟨a1, a2⟩ := ih x (h x List.mem_cons_self)
      obtain ⟨b1, b2⟩ := ihl fun y hy => h y (List.mem_cons_of_mem _ hy)
      refine ⟨?_, ?_⟩
      · show (x.py.canLay0 && PyData.canLayAll0 (pys xs)) = true
        rw [a1, b1]; rfl
      · show max x.py.depth (PyData.depthAll (pys xs)) ≤ n
        omega
  intro n
  induction n with
  | zero =>
    intro d h
    cases d with
    | non => exact ⟨rfl, Nat.zero_le _⟩
    | bl _ => exact ⟨rfl, Nat.zero_le _⟩
    | int _ => exact ⟨rfl, Nat.zero_le _⟩
    | str x => exact ⟨(by simpa [Pn] using h : PyData.strOk x = true), Nat.zero_le _⟩
    | _ => simp [Pn] at h
  | succ n ih =>
    intro d h
    cases d with
    | non => exact ⟨rfl, Nat.zero_le _⟩
    | bl _ => exact ⟨rfl, Nat.zero_le _⟩
    | int _ => exact ⟨rfl, Nat.zero_le _⟩
    | str x => exact ⟨(by simpa [Pn] using h : PyData.strOk x = true), Nat.zero_le _⟩
    | lst l =>
      obtain ⟨a, b⟩ := ls n ih l h
      exact ⟨a, by show PyData.depthAll (pys l) + 1 ≤ n + 1; omega⟩
    | tup l =>
      obtain ⟨a, b⟩ := ls n ih l h
      exact ⟨a, by show PyData.depthAll (pys l) + 1 ≤ n + 1; omega⟩
    | _ => simp [Pn] at h
theorem Pn.shaped {d : D} (h : Pn 60 d) : SeqAt.shaped d.py = true := by
  obtain ⟨a, b⟩ := Pn.sh 60 d h
  unfold SeqAt.shaped
  rw [a, decide_eq_true (by omega : d.py.depth ≤ 64)]; rfl
theorem Rp.dp {K : PySem.W.Frag} {H : Hp} : ∀ (n : Nat) (d : D) (v : V), Pn n d → Rp K H d v → Dp K H v d.py := by
  have ls : ∀ (n : Nat), (∀ d v, Pn n d → Rp K H d v → Dp K H v d.py) → ∀ (l : List D) (vs : List V), (∀ x ∈ l, Pn n x) → Rps K H l vs → DpAll K H vs (pys l) := by
    intro n ih l
    induction l with
    | nil => intro vs _ h; rw [show vs = [] from h]; exact .nil
    | cons x xs ihl =>
      intro vs hp h
      obtain ⟨v, r, rfl, h1, h2⟩ := h
      exact .cons (ih x v (hp x List.mem_cons_self) h1) (ihl r (fun y hy => hp y (List.mem_cons_of_mem _ hy)) h2)
  intro n
  induction n with
  | zero =>
    intro d v h r
    cases d with
    | non => cases (show v = .non from r); exact .non
    | bl b => cases (show v = .bl b from r); exact .bl b
    | int b => cases (show v = .int b from r); exact .int b
    | str b => cases (show v = .str b from r); exact .str b
    | _ => simp [Pn] at h
  | succ n ih =>
    intro d v h r
    cases d with
    | non => cases (show v = .non from r); exact .non
    | bl b => cases (show v = .bl b from r); exact .bl b
    | int b => cases (show v = .int b from r); exact .int b
    | str b => cases (show v = .str b from r); exact .str b
    | lst l =>
      obtain ⟨a, vs, rfl, h1, h2⟩ := r
      exact .lst (SqL.of h1) (ls n ih l vs h h2)
    | tup l =>
      obtain ⟨a, vs, rfl, h1, h2⟩ := r
      exact .tup h1 (ls n ih l vs h h2)
    | _ => simp [Pn] at h
/-! ### a look at what is held, as data -/
inductive Sn (c : List Cell) : W → D → Prop where
  | im {d : D} : Sn c (.im d) d
  | lst {n : Nat} {l : List D} (h : c[n]? = some (.lst l)) : Sn c (.ce n) (.lst l)
  | dic {n : Nat} {ks : List Key} {l : List D} (h : c[n]? = some (.dic ks l)) : Sn c (.ce n) (.dic ks l)
theorem Sn.rp {K : PySem.W.Frag} {κ : Wd} {c : List Cell} {w : W} {d : D} {v : V} (h : Sn c w d) (hc : κ.c = c) (o : κ.Ok K) (r : RW K κ.I κ.th w v) : Rp K κ.H d v := by
  subst hc
  cases h with
  | im => exact Rp.ex o.ex _ r
  | lst h =>
    obtain ⟨a, h1, rfl⟩ := r
    obtain ⟨vs, g1, g2⟩ := o.cl _ a _ h1 h
    exact ⟨a, vs, rfl, g1, Rps.ex o.ex _ g2⟩
  | dic h =>
    obtain ⟨a, h1, rfl⟩ := r
    obtain ⟨vs, g1, g2, g3⟩ := o.cl _ a _ h1 h
    exact ⟨a, vs, rfl, g1, g2, Rps.ex o.ex _ g3⟩
/-- .. its items, data of the immutable part -/
theorem Sn.lstI {K : PySem.W.Frag} {κ : Wd} {c : List Cell} {w : W} {l : List D} {v : V} (h : Sn c w (.lst l)) (hc : κ.c = c) (o : κ.Ok K) (r : RW K κ.I κ.th w v) : ∃ a vs, v = .ref a ∧ κ.H a = some (.lst vs) ∧ Rps K κ.I l vs := by
  subst hc
  cases h with
  | im =>
    obtain ⟨a, vs, rfl, g1, g2⟩ := r
    exact ⟨a, vs, rfl, o.ex _ _ g1, g2⟩
  | lst h =>
    obtain ⟨a, h1, rfl⟩ := r
    obtain ⟨vs, g1, g2⟩ := o.cl _ a _ h1 h
    exact ⟨a, vs, rfl, g1, g2⟩
theorem Sn.dicI {K : PySem.W.Frag} {κ : Wd} {c : List Cell} {w : W} {ks : List Key} {l : List D} {v : V} (h : Sn c w (.dic ks l)) (hc : κ.c = c) (o : κ.Ok K) (r : RW K κ.I κ.th w v) : ∃ a vs, v = .ref a ∧ κ.H a = some (.dK (ks.zip vs)) ∧ ks.length = vs.length ∧ Rps K κ.I l vs := by
  subst hc
  cases h with
  | im =>
    obtain ⟨a, vs, rfl, g1, g2, g3⟩ := r
    exact ⟨a, vs, rfl, o.ex _ _ g1, g2, g3⟩
  | dic h =>
    obtain ⟨a, h1, rfl⟩ := r
    obtain ⟨vs, g1, g2, g3⟩ := o.cl _ a _ h1 h
    exact ⟨a, vs, rfl, g1, g2, g3⟩
section
variable {Y : Cy} {c : List Cell} {Q : KQ} {w w1 w2 : W}
/-! ### ints -/
theorem wo_I {f : Value → Value → Sem Value} {C : Int → Int → Prop} {g : Int → Int → Int} (h : OpR Y.X f (rI C fun i j => .int (g i j))) {i j : Int} (hc : C i j) (q : Q (.im (.int (g i j))) c) : WO Y f (.im (.int i)) (.im (.int j)) c Q := fun κ x y e o rx ry Q' G =>
  OpR.w h ⟨i, j, rx, ry, hc, G (.int (g i j)) (.im (.int (g i j))) κ (.refl _) o rfl (by rw [e]; exact q)⟩
theorem wo_I0 {f : Value → Value → Sem Value} {g : Int → Int → Int} (h : OpR Y.X f (rI0 fun i j => .int (g i j))) {i j : Int} (q : Q (.im (.int (g i j))) c) : WO Y f (.im (.int i)) (.im (.int j)) c Q := fun κ x y e o rx ry Q' G =>
  OpR.w h ⟨i, j, rx, ry, G (.int (g i j)) (.im (.int (g i j))) κ (.refl _) o rfl (by rw [e]; exact q)⟩
theorem wo_B0 {f : Value → Value → Sem Value} {g : Int → Int → Bool} (h : OpR Y.X f (rI0 fun i j => .bl (g i j))) {i j : Int} (q : Q (.im (.bl (g i j))) c) : WO Y f (.im (.int i)) (.im (.int j)) c Q := fun κ x y e o rx ry Q' G =>
  OpR.w h ⟨i, j, rx, ry, G (.bl (g i j)) (.im (.bl (g i j))) κ (.refl _) o rfl (by rw [e]; exact q)⟩
section
variable {i j : Int}
theorem wo_add (q : Q (.im (.int (i + j))) c) : WO Y (binaryOp .Add) (.im (.int i)) (.im (.int j)) c Q := wo_I0 op_add q
theorem wo_sub (q : Q (.im (.int (i - j))) c) : WO Y (binaryOp .Sub) (.im (.int i)) (.im (.int j)) c Q := wo_I0 op_sub q
theorem wo_iadd (q : Q (.im (.int (i + j))) c) : WO Y (inplaceOp .Add) (.im (.int i)) (.im (.int j)) c Q := wo_I0 iop_add q
theorem wo_mul (h : CMul i j) (q : Q (.im (.int (i * j))) c) : WO Y (binaryOp .Mult) (.im (.int i)) (.im (.int j)) c Q := wo_I op_mul h q
theorem wo_mulW (h : CMulW i j) (q : Q (.im (.int (i * j))) c) : WO Y (binaryOp .Mult) (.im (.int i)) (.im (.int j)) c Q := wo_I op_mulW h q
theorem wo_div (h : CDivW i j) (q : Q (.im (.int (i / j))) c) : WO Y (binaryOp .FloorDiv) (.im (.int i)) (.im (.int j)) c Q := wo_I op_fdivW h q
theorem wo_mod (h : 0 < j) (q : Q (.im (.int (i % j))) c) : WO Y (binaryOp .Mod) (.im (.int i)) (.im (.int j)) c Q := wo_I op_mod h q
theorem wo_pow (h : CPow i j) (q : Q (.im (.int (i ^ j.toNat))) c) : WO Y (binaryOp .Pow) (.im (.int i)) (.im (.int j)) c Q := wo_I op_pow h q
theorem wu_neg (q : Q (.im (.int (-i))) c) : WU Y (unaryOp .USub) (.im (.int i)) c Q := fun κ x e o rx Q' G => UnR.w un_neg ⟨i, rx, G (.int (-i)) (.im (.int (-i))) κ (.refl _) o rfl (by rw [e]; exact q)⟩
theorem wo_lt (q : Q (.im (.bl (decide (i < j)))) c) : WO Y (compareOp .Lt) (.im (.int i)) (.im (.int j)) c Q := wo_B0 op_lt q
theorem wo_le (q : Q (.im (.bl (decide (i ≤ j)))) c) : WO Y (compareOp .LtE) (.im (.int i)) (.im (.int j)) c Q := wo_B0 op_le q
theorem wo_gt (q : Q (.im (.bl (decide (j < i)))) c) : WO Y (compareOp .Gt) (.im (.int i)) (.im (.int j)) c Q := wo_B0 op_gt q
theorem wo_ge (q : Q (.im (.bl (decide (j ≤ i)))) c) : WO Y (compareOp .GtE) (.im (.int i)) (.im (.int j)) c Q := wo_B0 op_ge q
theorem wo_eqI (q : Q (.im (.bl (decide (i = j)))) c) : WO Y (compareOp .Eq) (.im (.int i)) (.im (.int j)) c Q := fun κ x y e o rx ry Q' G =>
  OpR.w op_eq (by rw [show x = .int i from rx, show y = .int j from ry]; exact ⟨rfl, by rw [dec_int, show (i == j) = decide (i = j) from by rw [Bool.beq_eq_decide_eq]]; exact G (.bl _) (.im (.bl (decide (i = j)))) κ (.refl _) o rfl (by rw [e]; exact q)⟩)
theorem wo_neI (q : Q (.im (.bl (!decide (i = j)))) c) : WO Y (compareOp .NotEq) (.im (.int i)) (.im (.int j)) c Q := fun κ x y e o rx ry Q' G =>
  OpR.w op_ne (by rw [show x = .int i from rx, show y = .int j from ry]; exact ⟨rfl, by rw [dec_int, show (i == j) = decide (i = j) from by rw [Bool.beq_eq_decide_eq]]; exact G (.bl _) (.im (.bl (!decide (i = j)))) κ (.refl _) o rfl (by rw [e]; exact q)⟩)
end
/-! ### texts -/
section
variable {x y : Str}
theorem wo_eqS (q : Q (.im (.bl (decide (x = y)))) c) : WO Y (compareOp .Eq) (.im (.str x)) (.im (.str y)) c Q := fun κ a b e o rx ry Q' G =>
  OpR.w op_eq (by rw [show a = .str x from rx, show b = .str y from ry]; exact ⟨rfl, by rw [dec_str, show (x == y) = decide (x = y) from by rw [Bool.beq_eq_decide_eq]]; exact G (.bl _) (.im (.bl (decide (x = y)))) κ (.refl _) o rfl (by rw [e]; exact q)⟩)
theorem wo_neS (q : Q (.im (.bl (!decide (x = y)))) c) : WO Y (compareOp .NotEq) (.im (.str x)) (.im (.str y)) c Q := fun κ a b e o rx ry Q' G =>
  OpR.w op_ne (by rw [show a = .str x from rx, show b = .str y from ry]; exact ⟨rfl, by rw [dec_str, show (x == y) = decide (x = y) from by rw [Bool.beq_eq_decide_eq]]; exact G (.bl _) (.im (.bl (!decide (x = y)))) κ (.refl _) o rfl (by rw [e]; exact q)⟩)
theorem wo_catS (h : x.length + y.length ≤ sizeLine) (q : Q (.im (.str (x ++ y))) c) : WO Y (binaryOp .Add) (.im (.str x)) (.im (.str y)) c Q := fun κ a b e o rx ry Q' G =>
  OpR.w op_add_str ⟨x, y, rx, ry, h, G (.str (x ++ y)) (.im (.str (x ++ y))) κ (.refl _) o rfl (by rw [e]; exact q)⟩
end
/-! ### data -/
section
variable {d d1 d2 : D}
theorem wo_eqD (hu : Y.X.A.units + 64 < cLine) (s1 : Sn c w1 d1) (s2 : Sn c w2 d2) (p1 : Pn 60 d1) (p2 : Pn 60 d2) (q : Q (.im (.bl (deq d1 d2))) c) : WO Y (compareOp .Eq) w1 w2 c Q := fun κ a b e o rx ry Q' G =>
  OpR.w (op_eqD hu) ⟨d1.py, d2.py, Rp.dp 60 _ _ p1 (s1.rp e o rx), Rp.dp 60 _ _ p2 (s2.rp e o ry), p1.shaped, p2.shaped, by rw [eqv_py]; exact G (.bl _) (.im (.bl (deq d1 d2))) κ (.refl _) o rfl (by rw [e]; exact q)⟩
theorem wo_neD (hu : Y.X.A.units + 64 < cLine) (s1 : Sn c w1 d1) (s2 : Sn c w2 d2) (p1 : Pn 60 d1) (p2 : Pn 60 d2) (q : Q (.im (.bl (!deq d1 d2))) c) : WO Y (compareOp .NotEq) w1 w2 c Q := fun κ a b e o rx ry Q' G =>
  OpR.w (op_neD hu) ⟨d1.py, d2.py, Rp.dp 60 _ _ p1 (s1.rp e o rx), Rp.dp 60 _ _ p2 (s2.rp e o ry), p1.shaped, p2.shaped, by rw [eqv_py]; exact G (.bl _) (.im (.bl (!deq d1 d2))) κ (.refl _) o rfl (by rw [e]; exact q)⟩
/-- is it None -/
def D.isN : D → Bool
  | .non => true
  | _ => false
theorem isN_v {K : PySem.W.Frag} {H : Hp} {d : D} {v : V} (h : Rp K H d v) : decide (v = .non) = d.isN := by
  cases d with
  | non => cases (show v = .non from h); rfl
  | bl b => cases (show v = .bl b from h); rfl
  | int b => cases (show v = .int b from h); rfl
  | str b => cases (show v = .str b from h); rfl
  | tup l => obtain ⟨a, vs, rfl, _⟩ := h; rfl
  | lst l => obtain ⟨a, vs, rfl, _⟩ := h; rfl
  | scr l => obtain ⟨a, rfl, _⟩ := h; rfl
  | obj C ns l => obtain ⟨a, dx, vs, rfl, _⟩ := h; rfl
  | dic ks l => obtain ⟨a, vs, rfl, _⟩ := h; rfl
  | dct ks l => obtain ⟨a, vs, rfl, _⟩ := h; rfl
  | ty n => cases (show v = .ty n from h); rfl
  | cls C => cases (show v = .ref C from h); rfl
theorem wo_isN (q : Q (.im (.bl d.isN)) c) : WO Y (compareOp .Is) (.im d) (.im .non) c Q := fun κ a b e o rx ry Q' G =>
  OpR.w op_isN ⟨ry, by rw [isN_v (show Rp Y.X.K κ.I d a from rx)]; exact G (.bl _) (.im (.bl d.isN)) κ (.refl _) o rfl (by rw [e]; exact q)⟩
theorem wo_notN (q : Q (.im (.bl (!d.isN))) c) : WO Y (compareOp .IsNot) (.im d) (.im .non) c Q := fun κ a b e o rx ry Q' G =>
  OpR.w op_notN ⟨ry, by rw [isN_v (show Rp Y.X.K κ.I d a from rx)]; exact G (.bl _) (.im (.bl (!d.isN))) κ (.refl _) o rfl (by rw [e]; exact q)⟩
def D.flat : D → Bool
  | .non => true
  | .bl _ => true
  | .int _ => true
  | .str _ => true
  | _ => false
theorem flat_v {K : PySem.W.Frag} {H : Hp} {d : D} {v : V} (f : d.flat = true) (h : Rp K H d v) : flatV v = true := by
  cases d with
  | non => cases (show v = .non from h); rfl
  | bl b => cases (show v = .bl b from h); rfl
  | int b => cases (show v = .int b from h); rfl
  | str b => cases (show v = .str b from h); rfl
  | _ => cases f
theorem eq_v {K : PySem.W.Frag} {H : Hp} {d e : D} {v u : V} (f : d.flat = true) (f' : e.flat = true) (h : Rp K H d v) (h' : Rp K H e u) : eqV v u = deq d e := by
  cases d with
  | non => cases (show v = .non from h); cases e with
    | non => cases (show u = .non from h'); rfl
    | bl b => cases (show u = .bl b from h'); rfl
    | int b => cases (show u = .int b from h'); rfl
    | str b => cases (show u = .str b from h'); rfl
    | _ => cases f'
  | bl b => cases (show v = .bl b from h); cases e with
    | non => cases (show u = .non from h'); rfl
    | bl b => cases (show u = .bl b from h'); rfl
    | int b => cases (show u = .int b from h'); rfl
    | str b => cases (show u = .str b from h'); rfl
    | _ => cases f'
  | int b => cases (show v = .int b from h); cases e with
    | non => cases (show u = .non from h'); rfl
    | bl b => cases (show u = .bl b from h'); rfl
    | int b => cases (show u = .int b from h'); rfl
    | str b => cases (show u = .str b from h'); rfl
    | _ => cases f'
  | str b => cases (show v = .str b from h); cases e with
    | non => cases (show u = .non from h'); rfl
    | bl b => cases (show u = .bl b from h'); rfl
    | int b => cases (show u = .int b from h'); rfl
    | str b => cases (show u = .str b from h'); rfl
    | _ => cases f'
  | _ => cases f
/-- d is one of l -/
def inD (d : D) (l : List D) : Bool := l.any fun y => deq y d
theorem flats_v {K : PySem.W.Frag} {H : Hp} : ∀ {l : List D} {vs : List V}, l.all D.flat = true → Rps K H l vs → vs.all flatV = true
  | [], _, _, h => by rw [show _ = [] from h]; rfl
  | d :: ds, _, f, ⟨v, r, h1, h2, h3⟩ => by
    rw [List.all_cons, Bool.and_eq_true] at f
    rw [h1, List.all_cons, flat_v f.1 h2, flats_v f.2 h3]; rfl
theorem in_v {K : PySem.W.Frag} {H : Hp} {d : D} {v : V} (fd : d.flat = true) (hd : Rp K H d v) : ∀ {l : List D} {vs : List V}, l.all D.flat = true → Rps K H l vs → inV v vs = inD d l
  | [], _, _, h => by rw [show _ = [] from h]; rfl
  | x :: xs, _, f, ⟨u, r, h1, h2, h3⟩ => by
    rw [List.all_cons, Bool.and_eq_true] at f
    have ih := in_v fd hd f.2 h3
    rw [h1]
    show (eqV u v || inV v r) = (deq x d || inD d xs)
    rw [ih, eq_v f.1 fd h2 hd]
theorem wo_in {l : List D} (s2 : Sn c w2 (.lst l) ∨ w2 = .im (.tup l)) (f : d.flat = true) (fl : l.all D.flat = true) (q : Q (.im (.bl (inD d l))) c) : WO Y (compareOp .In) (.im d) w2 c Q := fun κ a b e o rx ry Q' G => by
  have rx' := Rp.ex o.ex d (show Rp Y.X.K κ.I d a from rx)
  rcases s2 with s2 | rfl
  · obtain ⟨p, vs, rfl, g1, g2⟩ := s2.rp e o ry
    exact OpR.w op_in_seq ⟨p, vs, rfl, .inl (SqL.of g1), flat_v f rx, flats_v fl g2, by rw [if_neg Bool.false_ne_true, in_v f rx' fl g2]; exact G (.bl _) (.im (.bl (inD d l))) κ (.refl _) o rfl (by rw [e]; exact q)⟩
  · obtain ⟨p, vs, rfl, g1, g2⟩ := Rp.ex o.ex (.tup l) ry
    exact OpR.w op_in_seq ⟨p, vs, rfl, .inr g1, flat_v f rx, flats_v fl g2, by rw [if_neg Bool.false_ne_true, in_v f rx' fl g2]; exact G (.bl _) (.im (.bl (inD d l))) κ (.refl _) o rfl (by rw [e]; exact q)⟩
theorem wo_notIn {l : List D} (s2 : Sn c w2 (.lst l) ∨ w2 = .im (.tup l)) (f : d.flat = true) (fl : l.all D.flat = true) (q : Q (.im (.bl (!inD d l))) c) : WO Y (compareOp .NotIn) (.im d) w2 c Q := fun κ a b e o rx ry Q' G => by
  have rx' := Rp.ex o.ex d (show Rp Y.X.K κ.I d a from rx)
  rcases s2 with s2 | rfl
  · obtain ⟨p, vs, rfl, g1, g2⟩ := s2.rp e o ry
    exact OpR.w op_notIn_seq ⟨p, vs, rfl, .inl (SqL.of g1), flat_v f rx, flats_v fl g2, by rw [if_pos rfl, in_v f rx' fl g2]; exact G (.bl _) (.im (.bl (!inD d l))) κ (.refl _) o rfl (by rw [e]; exact q)⟩
  · obtain ⟨p, vs, rfl, g1, g2⟩ := Rp.ex o.ex (.tup l) ry
    exact OpR.w op_notIn_seq ⟨p, vs, rfl, .inr g1, flat_v f rx, flats_v fl g2, by rw [if_pos rfl, in_v f rx' fl g2]; exact G (.bl _) (.im (.bl (!inD d l))) κ (.refl _) o rfl (by rw [e]; exact q)⟩
end
/-! ### lists, tuples -/
section
variable {l m : List D}
theorem wo_catL (s1 : Sn c w1 (.lst l)) (s2 : Sn c w2 (.lst m)) (h : l.length + m.length ≤ 1000000) (q : Q (.im (.lst (l ++ m))) c) : WO Y (binaryOp .Add) w1 w2 c Q := fun κ a b e o rx ry Q' G => by
  obtain ⟨p, vs, rfl, g1, g2⟩ := s1.lstI e o rx
  obtain ⟨p', vs', rfl, g1', g2'⟩ := s2.lstI e o ry
  refine OpR.w op_cat ⟨p, p', vs, vs', rfl, rfl, g1, g1', by rw [g2.len, g2'.len]; exact sz_of h, fun r hr => ?_⟩
  obtain ⟨l2, o2, rp⟩ := new_lst o hr (Rps.append g2 g2')
  exact G _ (.im (.lst (l ++ m))) _ l2 o2 rp (by rw [← e] at q; exact q)
theorem wo_catT (h : l.length + m.length ≤ 1000000) (q : Q (.im (.tup (l ++ m))) c) : WO Y (binaryOp .Add) (.im (.tup l)) (.im (.tup m)) c Q := fun κ a b e o rx ry Q' G => by
  obtain ⟨p, vs, rfl, g1, g2⟩ := rx
  obtain ⟨p', vs', rfl, g1', g2'⟩ := ry
  refine OpR.w op_catA ⟨p, p', vs, vs', rfl, rfl, ex_t o.ex g1, ex_t o.ex g1', by rw [g2.len, g2'.len]; exact sz_of h, fun z => ?_, fun _ z => ?_, fun _ _ r hr => ?_⟩
  · have : l = [] := by
      have := g2.len; rw [z] at this
      exact List.eq_nil_of_length_eq_zero this.symm
    subst this
    exact G _ (.im (.tup m)) κ (.refl _) o ⟨p', vs', rfl, g1', g2'⟩ (by rw [e]; exact q)
  · have : m = [] := by
      have := g2'.len; rw [z] at this
      exact List.eq_nil_of_length_eq_zero this.symm
    subst this
    rw [List.append_nil] at q
    exact G _ (.im (.tup l)) κ (.refl _) o ⟨p, vs, rfl, g1, g2⟩ (by rw [e]; exact q)
  · obtain ⟨l2, o2, rp⟩ := new_tup o hr (Rps.append g2 g2')
    exact G _ (.im (.tup (l ++ m))) _ l2 o2 rp (by rw [← e] at q; exact q)
theorem Rps.rep {K : PySem.W.Frag} {I : Hp} {vs : List V} (h : Rps K I l vs) : ∀ k : Nat, Rps K I (List.replicate k l).flatten (List.replicate k vs).flatten
  | 0 => Rps.nil
  | k + 1 => by rw [List.replicate_succ, List.replicate_succ, List.flatten_cons, List.flatten_cons]; exact Rps.append h (Rps.rep h k)
theorem wo_repL {k : Int} (s1 : Sn c w1 (.lst l)) (h : -(2 ^ 63) ≤ k ∧ k < 2 ^ 63) (hz : l.length * k.toNat ≤ 1000000) (q : Q (.im (.lst (List.replicate k.toNat l).flatten)) c) : WO Y (binaryOp .Mult) w1 (.im (.int k)) c Q := fun κ a b e o rx ry Q' G => by
  obtain ⟨p, vs, rfl, g1, g2⟩ := s1.lstI e o rx
  refine OpR.w op_rep ⟨p, k, vs, rfl, ry, g1, h.1, h.2, by rw [g2.len]; exact sz_of hz, fun r hr => ?_⟩
  obtain ⟨l2, o2, rp⟩ := new_lst o hr (Rps.rep g2 k.toNat)
  exact G _ (.im (.lst (List.replicate k.toNat l).flatten)) _ l2 o2 rp (by rw [← e] at q; exact q)
theorem wo_catC (s1 : Sn c w1 (.lst l)) (s2 : Sn c w2 (.lst m)) (h : l.length + m.length ≤ 1000000) (q : Q (.ce c.length) (c ++ [.lst (l ++ m)])) : WO Y (binaryOp .Add) w1 w2 c Q := fun κ a b e o rx ry Q' G => by
  obtain ⟨p, vs, rfl, g1, g2⟩ := s1.lstI e o rx
  obtain ⟨p', vs', rfl, g1', g2'⟩ := s2.lstI e o ry
  refine OpR.w op_cat ⟨p, p', vs, vs', rfl, rfl, g1, g1', by rw [g2.len, g2'.len]; exact sz_of h, fun r hr => ?_⟩
  obtain ⟨l2, o2, rp⟩ := new_cel o hr (Rps.append g2 g2')
  exact G _ (.ce κ.c.length) _ l2 o2 rp (by rw [← e] at q; exact q)
/-- items -/
theorem at_v {K : PySem.W.Frag} {I : Hp} {vs : List V} {i : Int} {d : D} (g : Rps K I l vs) (h : atI l i = some d) : ∃ v, atI vs i = some v ∧ Rp K I d v := by
  unfold atI at *
  rw [g.len]
  cases hx : ixN l.length i with
  | none => rw [hx] at h; cases h
  | some j =>
    rw [hx] at h
    exact g.get (show l[j]? = some d from h)
theorem wix_lst {i : Int} {d : D} (s1 : Sn c w1 (.lst l)) (h : atI l i = some d) (q : Q (.im d) c) : WIx Y w1 (.im (.int i)) c Q := fun κ a b e o rx ry Q' G => by
  obtain ⟨p, vs, rfl, g1, g2⟩ := s1.lstI e o rx
  obtain ⟨v, h1, h2⟩ := at_v g2 h
  exact IxR.w ix_list ⟨p, vs, i, v, rfl, ry, SqL.of g1, h1, G v (.im d) κ (.refl _) o h2 (by rw [e]; exact q)⟩
theorem wix_tup {i : Int} {d : D} (h : atI l i = some d) (q : Q (.im d) c) : WIx Y (.im (.tup l)) (.im (.int i)) c Q := fun κ a b e o rx ry Q' G => by
  obtain ⟨p, vs, rfl, g1, g2⟩ := rx
  obtain ⟨v, h1, h2⟩ := at_v g2 h
  exact IxR.w ix_tup ⟨p, vs, i, v, rfl, ry, ex_t o.ex g1, h1, G v (.im d) κ (.refl _) o h2 (by rw [e]; exact q)⟩
end
/-! ### built-ins -/
def D.len : D → Option Nat
  | .str x => some x.length
  | .tup l => some l.length
  | .lst l => some l.length
  | _ => none
theorem wc_len {d : D} {n : Nat} (s1 : Sn c w d) (h : d.len = some n) (hz : n ≤ 1000000) (q : Q (.im (.int n)) c) : WC Y (.builtin "len") [w] c Q := fun κ xs e o r Q' G => by
  obtain ⟨v, rr, rfl, rv, hn⟩ := r
  have hn : rr = [] := hn
  subst hn
  have rp := s1.rp e o rv
  refine CallR.w call_len ⟨v, n, rfl, ?_, G (.int n) (.im (.int n)) κ (.refl _) o rfl (by rw [e]; exact q)⟩
  cases d with
  | str x =>
    have hh : n = x.length := by injection h with h; exact h.symm
    subst hh
    cases (show v = .str x from rp)
    exact ⟨sz_of hz, rfl⟩
  | tup l =>
    have hh : n = l.length := by injection h with h; exact h.symm
    obtain ⟨a, vs, rfl, g1, g2⟩ := rp
    exact .inr ⟨vs, g1, by rw [g2.len]; exact hh⟩
  | lst l =>
    have hh : n = l.length := by injection h with h; exact h.symm
    obtain ⟨a, vs, rfl, g1, g2⟩ := rp
    exact .inl ⟨vs, SqL.of g1, by rw [g2.len]; exact hh⟩
  | _ => cases h
theorem wc_1 {f : Value} {r : List V → Hp → VK → Prop} (hr : CallR Y.X f r) {d : D} (k : ∀ κ v Q', κ.c = c → κ.Ok Y.X.K → Rp Y.X.K κ.I d v → GoV Y κ Q' Q → r [v] κ.H Q') : WC Y f [.im d] c Q := fun κ xs e o r Q' G => by
  obtain ⟨v, rr, rfl, rv, hn⟩ := r
  have hn : rr = [] := hn
  subst hn
  exact CallR.w hr (k κ v Q' e o rv G)
theorem wc_int {i : Int} (q : Q (.im (.int i)) c) : WC Y (.type "int") [.im (.int i)] c Q := wc_1 call_int1 fun κ v Q' e o rv G => .inl ⟨i, by rw [show v = .int i from rv], G (.int i) (.im (.int i)) κ (.refl _) o rfl (by rw [e]; exact q)⟩
theorem wc_intB {k : Bool} (q : Q (.im (.int (if k then 1 else 0))) c) : WC Y (.type "int") [.im (.bl k)] c Q := wc_1 call_int1 fun κ v Q' e o rv G => .inr ⟨k, by rw [show v = .bl k from rv], G (.int _) (.im (.int (if k then 1 else 0))) κ (.refl _) o rfl (by rw [e]; exact q)⟩
theorem wc_abs {i : Int} (q : Q (.im (.int (if i < 0 then -i else i))) c) : WC Y (.builtin "abs") [.im (.int i)] c Q := wc_1 call_abs fun κ v Q' e o rv G => ⟨i, by rw [show v = .int i from rv], G (.int _) (.im (.int (if i < 0 then -i else i))) κ (.refl _) o rfl (by rw [e]; exact q)⟩
theorem wc_strI {i : Int} (h : i.natAbs.log2 < 1920) (q : Q (.im (.str (toString i))) c) : WC Y (.type "str") [.im (.int i)] c Q := wc_1 call_str_int fun κ v Q' e o rv G => ⟨i, by rw [show v = .int i from rv], h, G (.str _) (.im (.str (toString i))) κ (.refl _) o rfl (by rw [e]; exact q)⟩
theorem wc_s {f : Value} {r : List V → Hp → VK → Prop} (hr : CallR Y.X f r) {l : List D} (s1 : Sn c w (.lst l)) (k : ∀ κ a vs Q', κ.c = c → κ.Ok Y.X.K → κ.H a = some (.lst vs) → Rps Y.X.K κ.I l vs → GoV Y κ Q' Q → r [.ref a] κ.H Q') : WC Y f [w] c Q := fun κ xs e o r Q' G => by
  obtain ⟨v, rr, rfl, rv, hn⟩ := r
  have hn : rr = [] := hn
  subst hn
  obtain ⟨a, vs, rfl, g1, g2⟩ := s1.lstI e o rv
  exact CallR.w hr (k κ a vs Q' e o g1 g2 G)
theorem wc_all {bs : List Bool} (hcm : Y.X.calm = true) (s1 : Sn c w (.lst (bs.map D.bl))) (q : Q (.im (.bl (bs.all id))) c) : WC Y (.builtin "all") [w] c Q := wc_s (cr_all hcm) s1 fun κ a vs Q' e o g1 g2 G => ⟨a, bs, rfl, by rw [← g2.bls]; exact SqL.of g1, G (.bl _) (.im (.bl (bs.all id))) κ (.refl _) o rfl (by rw [e]; exact q)⟩
theorem wc_any {bs : List Bool} (hcm : Y.X.calm = true) (s1 : Sn c w (.lst (bs.map D.bl))) (q : Q (.im (.bl (bs.any id))) c) : WC Y (.builtin "any") [w] c Q := wc_s (cr_any hcm) s1 fun κ a vs Q' e o g1 g2 G => ⟨a, bs, rfl, by rw [← g2.bls]; exact SqL.of g1, G (.bl _) (.im (.bl (bs.any id))) κ (.refl _) o rfl (by rw [e]; exact q)⟩
theorem wc_max {ns : List Int} (hcm : Y.X.calm = true) (s1 : Sn c w (.lst (ns.map D.int))) (h : 0 < ns.length) (q : ∀ m, m ∈ ns → (∀ y ∈ ns, y ≤ m) → Q (.im (.int m)) c) : WC Y (.builtin "max") [w] c Q := wc_s (cr_max hcm) s1 fun κ a vs Q' e o g1 g2 G => ⟨a, ns, rfl, by rw [← g2.ints]; exact SqL.of g1, h, fun m h1 h2 => G (.int m) (.im (.int m)) κ (.refl _) o rfl (by rw [e]; exact q m h1 h2)⟩
theorem wc_min {ns : List Int} (hcm : Y.X.calm = true) (s1 : Sn c w (.lst (ns.map D.int))) (h : 0 < ns.length) (q : ∀ m, m ∈ ns → (∀ y ∈ ns, m ≤ y) → Q (.im (.int m)) c) : WC Y (.builtin "min") [w] c Q := wc_s (cr_min hcm) s1 fun κ a vs Q' e o g1 g2 G => ⟨a, ns, rfl, by rw [← g2.ints]; exact SqL.of g1, h, fun m h1 h2 => G (.int m) (.im (.int m)) κ (.refl _) o rfl (by rw [e]; exact q m h1 h2)⟩
theorem wc_max2 {i j : Int} (hcm : Y.X.calm = true) (q : Q (.im (.int (if j > i then j else i))) c) : WC Y (.builtin "max") [.im (.int i), .im (.int j)] c Q := fun κ xs e o r Q' G => by
  obtain ⟨v, rr, rfl, rv, v2, rr2, rfl, rv2, hn⟩ := r
  have hn : rr2 = [] := hn
  subst hn
  cases (show v = .int i from rv)
  cases (show v2 = .int j from rv2)
  exact CallR.w (call_max2 hcm) ⟨i, j, rfl, G (.int _) (.im (.int (if j > i then j else i))) κ (.refl _) o rfl (by rw [e]; exact q)⟩
theorem wc_tuple {l : List D} (s1 : Sn c w (.lst l)) (q : Q (.im (.tup l)) c) : WC Y (.type "tuple") [w] c Q := wc_s call_tuple_of s1 fun κ a vs Q' e o g1 g2 G => ⟨a, vs, rfl, .inl ⟨SqL.of g1, fun p hp => by
  obtain ⟨l2, o2, rp⟩ := new_tup o hp g2
  exact G _ (.im (.tup l)) _ l2 o2 rp (by rw [← e] at q; exact q)⟩⟩
theorem wc_listT {l : List D} (q : Q (.im (.lst l)) c) : WC Y (.type "list") [.im (.tup l)] c Q := wc_1 call_list_of fun κ v Q' e o rv G => by
  obtain ⟨a, vs, rfl, g1, g2⟩ := rv
  refine ⟨a, vs, rfl, .inr (ex_t o.ex g1), fun p hp => ?_⟩
  obtain ⟨l2, o2, rp⟩ := new_lst o hp g2
  exact G _ (.im (.lst l)) _ l2 o2 rp (by rw [← e] at q; exact q)
/-- the built-in type of data -/
def D.tyn : D → Option String
  | .non => some "NoneType"
  | .bl _ => some "bool"
  | .int _ => some "int"
  | .str _ => some "str"
  | .tup _ => some "tuple"
  | .lst _ => some "list"
  | .dic _ _ => some "dict"
  | .dct _ _ => some "dict"
  | _ => none
theorem tyx_v {K : PySem.W.Frag} {H : Hp} {d : D} {v : V} {a : String} (h : Rp K H d v) (t : d.tyn = some a) : TyX K H v (.type a) := by
  cases d with
  | non => cases (show v = .non from h); cases t; exact .base .non
  | bl b => cases (show v = .bl b from h); cases t; exact .base (.bl b)
  | int b => cases (show v = .int b from h); cases t; exact .base (.int b)
  | str b => cases (show v = .str b from h); cases t; exact .base (.str b)
  | tup l =>
    obtain ⟨p, vs, rfl, g1, _⟩ := h
    cases t
    rcases g1 with (g1 | ⟨o, g1⟩) | ⟨o, its, n, g1, g2, _⟩
    · exact .base (.tup g1)
    · exact .fTuple g1
    · exact .kTuple g1 g2
  | lst l => obtain ⟨p, vs, rfl, g1, _⟩ := h; cases t; exact .base (.lst g1)
  | dic ks l => obtain ⟨p, vs, rfl, g1, _⟩ := h; cases t; exact .base (.dK g1)
  | dct ks l => obtain ⟨p, vs, rfl, g1, _⟩ := h; cases t; exact .base (.dT g1)
  | _ => cases t
theorem wc_isi {d : D} {a T : String} {k : Bool} (s1 : Sn c w d) (h : d.tyn = some a) (hk : kitB a T = some k) (q : Q (.im (.bl k)) c) : WC Y (.builtin "isinstance") [w, .im (.ty T)] c Q := fun κ xs e o r Q' G => by
  obtain ⟨v, rr, rfl, rv, v2, rr2, rfl, rv2, hn⟩ := r
  have hn : rr2 = [] := hn
  subst hn
  cases (show v2 = .ty T from rv2)
  exact CallR.w call_isi ⟨v, .ty T, .type a, .type T, k, rfl, .ty T, tyx_v (s1.rp e o rv) h, kit_ty hk, G (.bl k) (.im (.bl k)) κ (.refl _) o rfl (by rw [e]; exact q)⟩
end
end WL
/-! Slices, subscripts, attributes, methods, instances, raise, try over plain data. -/
namespace WL
open PySem PySem.Spec PyProof.Rows L2
/-! ### subscripts of dicts -/
theorem ix_dict {X : Cx} (hu : X.A.units + 1 < cLine) : IxR X (fun x y H Q => ∃ a v, x = .ref a ∧ DGet H a y (some v) ∧ Q v H) := by
  intro value slice pins s σ H x y v u Q I rx ry h hs
  obtain ⟨a, z, rfl, g, q⟩ := h
  cases rx
  exact tail_any (dict_typeIs I g) PySem.F.slot_dict_getitem.lookup (d_getItem hu I g ry fun w' s' I' rw' => ⟨z, H, I', rw', q⟩) hs
theorem op_inDic {X : Cx} (hu : X.A.units + 1 < cLine) : OpR X (compareOp .In) (fun x y H Q => ∃ a o, y = .ref a ∧ DGet H a x o ∧ Q (.bl o.isSome) H) := by
  intro pins s σ H x y v u Q I rx ry h
  obtain ⟨a, o, rfl, g, q⟩ := h
  cases ry
  exact d_in hu I g rx fun s' I' => ⟨.bl o.isSome, H, I', rfl, q⟩
theorem op_notInDic {X : Cx} (hu : X.A.units + 1 < cLine) : OpR X (compareOp .NotIn) (fun x y H Q => ∃ a o, y = .ref a ∧ DGet H a x o ∧ Q (.bl (!o.isSome)) H) := by
  intro pins s σ H x y v u Q I rx ry h
  obtain ⟨a, o, rfl, g, q⟩ := h
  cases ry
  exact d_notIn hu I g rx fun s' I' => ⟨.bl (!o.isSome), H, I', rfl, q⟩
/-- what stands under a key -/
def atK {κ : Type} [DecidableEq κ] : List κ → List D → κ → Option D
  | k :: ks, d :: ds, j => if k = j then some d else atK ks ds j
  | _, _, _ => none
/-- .. stored -/
def putD {κ : Type} [DecidableEq κ] : List κ → List D → κ → D → List κ × List D
  | k :: ks, d :: ds, j, e => if k = j then (k :: ks, e :: ds) else ((k :: (putD ks ds j e).1), (d :: (putD ks ds j e).2))
  | _, _, j, e => ([j], [e])
theorem atK_v {κ : Type} [DecidableEq κ] {K : PySem.W.Frag} {I : Hp} : ∀ {ks : List κ} {l : List D} {vs : List V} (j : κ), ks.length = vs.length → Rps K I l vs →
    (∀ d, atK ks l j = some d → ∃ v, valV (ks.zip vs) j = some v ∧ Rp K I d v) ∧ (atK ks l j = none → valV (ks.zip vs) j = none)
  | [], l, vs, j, e, h => by
    have : vs = [] := List.eq_nil_of_length_eq_zero (by simpa using e.symm)
    subst this
    exact ⟨fun d hd => by simp [atK] at hd, fun _ => rfl⟩
  | k :: ks, [], vs, j, e, h => by rw [show vs = [] from h] at e; simp at e
  | k :: ks, d :: ds, _, j, e, ⟨v, r, h1, h2, h3⟩ => by
    subst h1
    have e' : ks.length = r.length := by simpa using e
    obtain ⟨ih1, ih2⟩ := atK_v j e' h3
    by_cases q : k = j
    · refine ⟨fun d' hd => ?_, fun hn => ?_⟩
      · rw [show atK (k :: ks) (d :: ds) j = if k = j then some d else atK ks ds j from rfl, if_pos q] at hd
        cases hd
        exact ⟨v, valV_pos q, h2⟩
      · rw [show atK (k :: ks) (d :: ds) j = if k = j then some d else atK ks ds j from rfl, if_pos q] at hn; cases hn
    · refine ⟨fun d' hd => ?_, fun hn => ?_⟩
      · rw [show atK (k :: ks) (d :: ds) j = if k = j then some d else atK ks ds j from rfl, if_neg q] at hd
        obtain ⟨v', g1, g2⟩ := ih1 d' hd
        exact ⟨v', by rw [List.zip_cons_cons, valV_neg q]; exact g1, g2⟩
      · rw [show atK (k :: ks) (d :: ds) j = if k = j then some d else atK ks ds j from rfl, if_neg q] at hn
        rw [List.zip_cons_cons, valV_neg q]; exact ih2 hn
theorem putK_cons {κ : Type} [DecidableEq κ] {p : κ × V} {r : List (κ × V)} {j : κ} {e : V} (hnd : (p.1 :: r.map (·.1)).Nodup) : putK (p :: r) j e = if p.1 = j then (p.1, e) :: r else p :: putK r j e := by
  have hp : p.1 ∉ r.map (·.1) := (List.nodup_cons.mp hnd).1
  unfold putK
  by_cases q : p.1 = j
  · rw [if_pos q]
    have : ((p :: r).any fun kv => decide (kv.1 = j)) = true := by simp [q]
    rw [if_pos this, List.map_cons, if_pos q]
    congr 1
    have : r.map (fun kv => if kv.1 = j then (kv.1, e) else kv) = r.map id := by
      apply List.map_congr_left
      intro kv hkv
      have : kv.1 ≠ j := fun z => hp (by rw [q, ← z]; exact List.mem_map_of_mem hkv)
      rw [if_neg this]; rfl
    rw [this, List.map_id]
  · rw [if_neg q]
    by_cases a : (r.any fun kv => decide (kv.1 = j)) = true
    · have : ((p :: r).any fun kv => decide (kv.1 = j)) = true := by rw [List.any_cons, a, Bool.or_true]
      rw [if_pos this, if_pos a, List.map_cons, if_neg q]
    · have : ¬ ((p :: r).any fun kv => decide (kv.1 = j)) = true := by
        rw [List.any_cons, decide_eq_false q, Bool.false_or]; exact a
      rw [if_neg this, if_neg a, List.cons_append]
theorem putD_v {κ : Type} [DecidableEq κ] {K : PySem.W.Frag} {I : Hp} : ∀ {ks : List κ} {l : List D} {vs : List V} (j : κ) {e : D} {u : V}, ks.Nodup → ks.length = vs.length → Rps K I l vs → Rp K I e u →
    ∃ ws, putK (ks.zip vs) j u = (putD ks l j e).1.zip ws ∧ (putD ks l j e).1.length = ws.length ∧ Rps K I (putD ks l j e).2 ws
  | [], l, vs, j, e, u, _, el, h, he => by
    have : vs = [] := List.eq_nil_of_length_eq_zero (by simpa using el.symm)
    subst this
    cases l with
    | nil => exact ⟨[u], rfl, rfl, Rps.cons he Rps.nil⟩
    | cons d ds => obtain ⟨_, _, z, _⟩ := h; cases z
  | k :: ks, [], vs, j, e, u, _, el, h, he => by rw [show vs = [] from h] at el; simp at el
  | k :: ks, d :: ds, _, j, e, u, nd, el, ⟨v, r, h1, h2, h3⟩, he => by
    subst h1
    have e' : ks.length = r.length := by simpa using el
    have nd' := (List.nodup_cons.mp nd).2
    have hm : (ks.zip r).map (·.1) = ks := by rw [List.map_fst_zip (by omega)]
    rw [List.zip_cons_cons, putK_cons (by rw [hm]; exact nd)]
    by_cases q : k = j
    · rw [if_pos q]
      refine ⟨u :: r, ?_, ?_, ?_⟩
      · rw [show putD (k :: ks) (d :: ds) j e = if k = j then (k :: ks, e :: ds) else ((k :: (putD ks ds j e).1), (d :: (putD ks ds j e).2)) from rfl, if_pos q]; rfl
      · rw [show putD (k :: ks) (d :: ds) j e = if k = j then (k :: ks, e :: ds) else ((k :: (putD ks ds j e).1), (d :: (putD ks ds j e).2)) from rfl, if_pos q]; simp [e']
      · rw [show putD (k :: ks) (d :: ds) j e = if k = j then (k :: ks, e :: ds) else ((k :: (putD ks ds j e).1), (d :: (putD ks ds j e).2)) from rfl, if_pos q]; exact Rps.cons he h3
    · rw [if_neg q]
      obtain ⟨ws, g1, g2, g3⟩ := putD_v j nd' e' h3 he
      refine ⟨v :: ws, ?_, ?_, ?_⟩
      · rw [show putD (k :: ks) (d :: ds) j e = if k = j then (k :: ks, e :: ds) else ((k :: (putD ks ds j e).1), (d :: (putD ks ds j e).2)) from rfl, if_neg q, g1]; rfl
      · rw [show putD (k :: ks) (d :: ds) j e = if k = j then (k :: ks, e :: ds) else ((k :: (putD ks ds j e).1), (d :: (putD ks ds j e).2)) from rfl, if_neg q]; simp [g2]
      · rw [show putD (k :: ks) (d :: ds) j e = if k = j then (k :: ks, e :: ds) else ((k :: (putD ks ds j e).1), (d :: (putD ks ds j e).2)) from rfl, if_neg q]; exact Rps.cons h2 g3
/-! ### o[i] = v -/
def wSet (X : Cx) : TSet := fun o i v H Q => ∀ (pins : List (Addr × Obj)) (s : Shared) (σ : L2.St) (ov iv u : Value), Inv X pins σ H s → RelV o ov → RelV i iv → RelV v u → wpAny (model X.prog X.w) X.A (setItem ov iv u) (fun _ s' => ∃ H', Inv X pins σ H' s' ∧ Q H') X.xe s
theorem pset_w {X : Cx} : PSet X (wSet X) := fun pins s σ H o i v ov iv u Q I r1 r2 r3 h => h pins s σ ov iv u I r1 r2 r3
theorem PSet.w {X : Cx} {t : TSet} {o i v : V} {H : Hp} {Q : Hp → Prop} (h : PSet X t) (q : t o i v H Q) : wSet X o i v H Q := fun pins s σ ov iv u I r1 r2 r3 => h pins s σ H o i v ov iv u Q I r1 r2 r3 q
def wSl (X : Cx) : V → Option Int → Option Int → Hp → VK → Prop := fun x lo hi H Q => ∀ (pins : List (Addr × Obj)) (s : Shared) (σ : L2.St) (v vl vu : Value) (sl : Addr), Inv X pins σ H s → RelV x v → s.heap.IsSliceOf sl vl vu .none → IsPart vl lo → IsPart vu hi →
    ∃ T id, typeLookup (.type T) "__getitem__" = pure (some (.builtin id)) ∧ s.TypeIs v T ∧ wpAny (model X.prog X.w) X.A (getItem v (.ref sl)) (EP X pins σ Q) X.xe s
theorem sl_w {X : Cx} : SlR X (wSl X) := fun pins s σ H x v vl vu lo hi sl Q I rx hs pl pu h => h pins s σ v vl vu sl I rx hs pl pu
theorem SlR.w {X : Cx} {r : V → Option Int → Option Int → Hp → VK → Prop} {x : V} {lo hi : Option Int} {H : Hp} {Q : VK} (h : SlR X r) (q : r x lo hi H Q) : wSl X x lo hi H Q := fun pins s σ v vl vu sl I rx hs pl pu => h pins s σ H x v vl vu lo hi sl Q I rx hs pl pu q
section
variable {Y : Cy} {c : List Cell} {Q : KQ} {w w1 w2 : W}
def D.key : D → Option Key
  | .int i => some (.inl i)
  | .str x => some (.inr x)
  | _ => none
theorem key_v {K : PySem.W.Frag} {H : Hp} {d : D} {v : V} {k : Key} (hk : d.key = some k) (h : Rp K H d v) : v = kV k := by
  cases d with
  | int i => cases (show v = .int i from h); cases hk; rfl
  | str i => cases (show v = .str i from h); cases hk; rfl
  | _ => cases hk
theorem wix_dic {ks : List Key} {l : List D} {d e : D} {k : Key} (hu : Y.X.A.units + 1 < cLine) (s1 : Sn c w1 (.dic ks l)) (hk : d.key = some k) (h : atK ks l k = some e) (q : Q (.im e) c) : WIx Y w1 (.im d) c Q := fun κ a b ec o rx ry Q' G => by
  obtain ⟨p, vs, rfl, g1, g2, g3⟩ := s1.dicI ec o rx
  obtain ⟨v, h1, h2⟩ := (atK_v k g2 g3).1 e h
  cases key_v hk (show Rp Y.X.K κ.I d b from ry)
  exact IxR.w (ix_dict hu) ⟨p, v, rfl, by rw [← h1]; exact DGet.k g1, G v (.im e) κ (.refl _) o h2 (by rw [ec]; exact q)⟩
theorem dget_some {K : PySem.W.Frag} {I : Hp} {ks : List Key} {l : List D} {vs : List V} (k : Key) (g2 : ks.length = vs.length) (g3 : Rps K I l vs) : (valV (ks.zip vs) k).isSome = (atK ks l k).isSome := by
  cases h : atK ks l k with
  | none => rw [(atK_v k g2 g3).2 h]; rfl
  | some d =>
    obtain ⟨v, h1, _⟩ := (atK_v k g2 g3).1 d h
    rw [h1]; rfl
theorem wo_inDic {ks : List Key} {l : List D} {d : D} {k : Key} (hu : Y.X.A.units + 1 < cLine) (s2 : Sn c w2 (.dic ks l)) (hk : d.key = some k) (q : Q (.im (.bl (atK ks l k).isSome)) c) : WO Y (compareOp .In) (.im d) w2 c Q := fun κ a b ec o rx ry Q' G => by
  obtain ⟨p, vs, rfl, g1, g2, g3⟩ := s2.dicI ec o ry
  cases key_v hk (show Rp Y.X.K κ.I d a from rx)
  exact OpR.w (op_inDic hu) ⟨p, valV (ks.zip vs) k, rfl, DGet.k g1, by rw [dget_some k g2 g3]; exact G (.bl _) (.im (.bl (atK ks l k).isSome)) κ (.refl _) o rfl (by rw [ec]; exact q)⟩
theorem wo_notInDic {ks : List Key} {l : List D} {d : D} {k : Key} (hu : Y.X.A.units + 1 < cLine) (s2 : Sn c w2 (.dic ks l)) (hk : d.key = some k) (q : Q (.im (.bl (!(atK ks l k).isSome))) c) : WO Y (compareOp .NotIn) (.im d) w2 c Q := fun κ a b ec o rx ry Q' G => by
  obtain ⟨p, vs, rfl, g1, g2, g3⟩ := s2.dicI ec o ry
  cases key_v hk (show Rp Y.X.K κ.I d a from rx)
  exact OpR.w (op_notInDic hu) ⟨p, valV (ks.zip vs) k, rfl, DGet.k g1, by rw [dget_some k g2 g3]; exact G (.bl _) (.im (.bl (!(atK ks l k).isSome))) κ (.refl _) o rfl (by rw [ec]; exact q)⟩
/-- the value, then the object, then the place -/
def WSet (Y : Cy) (wv wo wi : W) (c : List Cell) (Q : List Cell → Prop) : Prop := ∀ (κ : Wd) (v o i : V), κ.c = c → κ.Ok Y.X.K → RW Y.X.K κ.I κ.th wv v → RW Y.X.K κ.I κ.th wo o → RW Y.X.K κ.I κ.th wi i → ∀ Q' : Hp → Prop, (∀ κ' : Wd, κ.le κ' → κ'.Ok Y.X.K → Q κ'.c → Q' κ'.H) → wSet Y.X o i v κ.H Q'
theorem wset_lst {n j : Nat} {l : List D} {i : Int} {d : D} {QC : List Cell → Prop} (hc : c[n]? = some (.lst l)) (hj : ixN l.length i = some j) (q : QC (c.set n (.lst (l.set j d)))) : WSet Y (.im d) (.ce n) (.im (.int i)) c QC := fun κ v o i' ec ok rv ro ri Q' G => by
  subst ec
  obtain ⟨a, ha, rfl⟩ := ro
  obtain ⟨vs, g1, g2⟩ := ok.cl n a _ ha hc
  refine PSet.w set_list ⟨a, vs, i, j, rfl, ri, g1, by rw [g2.len]; exact hj, ?_⟩
  exact G ⟨κ.I, upd κ.H a (.lst (vs.set j v)), κ.th, κ.c.set n (.lst (l.set j d))⟩ (Wd.put_le ok ha) (ok.put ha ⟨vs.set j v, upd_same, Rps.set j g2 rv⟩) q
def rSetD : TSet := fun o i v H Q => ∃ a H', o = .ref a ∧ DPut H a i v H' ∧ Q H'
theorem set_dic {X : Cx} (hu : X.A.units + 1 < cLine) : PSet X rSetD := fun pins s σ H o i v ov iv u Q I r1 r2 r3 ⟨a, H', e, g, q⟩ => by
  subst e
  cases r1
  exact d_setItem hu I g r2 r3 fun s' I' => ⟨H', I', q⟩
theorem wset_dic {n : Nat} {ks : List Key} {l : List D} {d e : D} {k : Key} {QC : List Cell → Prop} (hu : Y.X.A.units + 1 < cLine) (hc : c[n]? = some (.dic ks l)) (nd : ks.Nodup) (hz : ks.length < 1000000) (hk : d.key = some k) (q : QC (c.set n (.dic (putD ks l k e).1 (putD ks l k e).2))) : WSet Y (.im e) (.ce n) (.im d) c QC := fun κ v o i' ec ok rv ro ri Q' G => by
  subst ec
  obtain ⟨a, ha, rfl⟩ := ro
  obtain ⟨vs, g1, g2, g3⟩ := ok.cl n a _ ha hc
  cases key_v hk (show Rp Y.X.K κ.I d i' from ri)
  obtain ⟨ws, p1, p2, p3⟩ := putD_v k nd g2 g3 (show Rp Y.X.K κ.I e v from rv)
  have hl : (ks.zip vs).length < sizeLine := by rw [List.length_zip, g2, Nat.min_self, ← g2]; exact Nat.lt_of_lt_of_le hz (by decide)
  refine PSet.w (set_dic hu) ⟨a, upd κ.H a (.dK (putK (ks.zip vs) k v)), rfl, DPut.k g1 hl, ?_⟩
  exact G ⟨κ.I, upd κ.H a (.dK (putK (ks.zip vs) k v)), κ.th, κ.c.set n (.dic (putD ks l k e).1 (putD ks l k e).2)⟩ (Wd.put_le ok ha) (ok.put ha ⟨ws, by rw [← p1]; exact upd_same, p2, p3⟩) q
end
section
variable {Y : Cy} {n0 : Nat} {ρ : Ρ} {c : List Cell} {Z : EndsW} {pos : Pos}
theorem ws_sub {o i e : Expr} {pos' : Pos} (h : WE Y ρ c e fun wv c1 => WE Y ρ c1 o fun wo c2 => WE Y ρ c2 i fun wi c3 => WSet Y wv wo wi c3 fun c4 => Z.nx ρ c4) (hs : swapsWithSole [.Subscript o i pos'] e pos.line Y.X.env = pure false := by rfl) (hw : swappedStores [.Subscript o i pos'] e Y.X.env = pure none := by rfl)
    (ha : ∀ v, assign (.Subscript o i pos') Y.X.env v = (do
      let ov ← holding [v] (eval o Y.X.env)
      let iv ← holding [v, ov] (eval i Y.X.env)
      standAt pos'
      holding [v, ov, iv] (setItem ov iv v)
      release [v, ov, iv] []) := by intro _; rfl) (h1 : (assignEach [.Subscript o i pos'] Y.X.env).map (·.2) = [assign (.Subscript o i pos') Y.X.env] := by rfl) : WS Y n0 ρ c (.Assign [.Subscript o i pos'] e pos) Z := fun κ0 κ σ h0 l hc ok r De E =>
  PS.w (ps_asg pe_w (pg_sub pe_w pe_w pset_w ha) hs hw h1) (h.bind hc ok r (E.gox l r) fun v wv κ1 l1 o1 r1 g1 rw1 q1 => q1.bind rfl o1 r1 g1 fun vo wo κ2 l2 o2 r2 g2 rw2 q2 => q2.bind rfl o2 r2 g2 fun vi wi κ3 l3 o3 r3 g3 rw3 q3 =>
    q3 κ3 v vo vi rfl o3 ((rw1.le l2).le l3) (rw2.le l3) rw3 _ fun κ4 l4 o4 q => E.nx σ κ4 ρ ((((l.trans l1).trans l2).trans l3).trans l4) o4 (r3.le l4) q)
/-! ### slices -/
def WPo (Y : Cy) (ρ : Ρ) (c : List Cell) (o : Option Expr) (Q : Option Int → List Cell → Prop) : Prop := match o with
  | none => Q none c
  | some e => WE Y ρ c e fun w c1 => ∃ i, w = .im (.int i) ∧ Q (some i) c1
def WSl (Y : Cy) (w : W) (lo hi : Option Int) (c : List Cell) (Q : KQ) : Prop := ∀ κ x, κ.c = c → κ.Ok Y.X.K → RW Y.X.K κ.I κ.th w x → ∀ Q', GoV Y κ Q' Q → wSl Y.X x lo hi κ.H Q'
variable {Q : KQ} {w : W}
def wPo (X : Cx) : Option Expr → TO
  | none => tNoPart
  | some e => tPart (wE X e)
theorem po_w {X : Cx} : ∀ {o : Option Expr}, PO X o (wPo X o)
  | none => po_none
  | some _ => po_some pe_w
theorem we_slice {a : Expr} {lo hi : Option Expr} {p2 : Pos} (h : WE Y ρ c a fun w c1 => WPo Y ρ c1 lo fun l c2 => WPo Y ρ c2 hi fun u c3 => WSl Y w l u c3 Q) : WE Y ρ c (.Subscript a (.Slice lo hi none p2) pos) Q := fun κ σ hc o r g Q' G => by
  refine PE.w (pe_slice sl_w pe_w po_w po_w) (h.bind hc o r g fun v w κ1 l1 o1 r1 g1 rw1 q1 => ?_)
  have hiGo : ∀ (l : Option Int) (κ2 : Wd), κ1.le κ2 → κ2.Ok Y.X.K → REnv Y.X.K κ2 σ ρ → GoX Y κ2 σ ρ → (WPo Y ρ κ2.c hi fun u c3 => WSl Y w l u c3 Q) → wPo Y.X hi σ κ2.H fun u H3 => wSl Y.X v l u H3 Q' := by
    intro l κ2 l2 o2 r2 g2 q2
    cases hi with
    | none => exact q2 κ2 v rfl o2 (rw1.le l2) Q' (GoV.le G (l1.trans l2))
    | some e =>
      refine WE.bind q2 rfl o2 r2 g2 fun v3 w3 κ3 l3 o3 r3 g3 rw3 ⟨i, e3, q3⟩ => ?_
      subst e3
      exact ⟨i, rw3, q3 κ3 v rfl o3 ((rw1.le l2).le l3) Q' (GoV.le G ((l1.trans l2).trans l3))⟩
  cases lo with
  | none => exact hiGo none κ1 (.refl _) o1 r1 g1 q1
  | some e =>
    refine WE.bind q1 rfl o1 r1 g1 fun v2 w2 κ2 l2 o2 r2 g2 rw2 ⟨i, e2, q2⟩ => ?_
    subst e2
    exact ⟨i, rw2, hiGo (some i) κ2 l2 o2 r2 g2 q2⟩
def cutD (l : List D) (lo hi : Option Int) : List D := (l.drop (HT.sIx l.length 0 lo)).take (HT.sIx l.length l.length hi - HT.sIx l.length 0 lo)
theorem cut_v {K : PySem.W.Frag} {I : Hp} {l : List D} {vs : List V} (lo hi : Option Int) (h : Rps K I l vs) : Rps K I (cutD l lo hi) (cutV vs lo hi) := by
  unfold cutD cutV
  rw [h.len]
  exact Rps.take _ (Rps.drop _ h)
theorem wsl_lst {l : List D} {lo hi : Option Int} (s1 : Sn c w (.lst l)) (q : Q (.im (.lst (cutD l lo hi))) c) : WSl Y w lo hi c Q := fun κ x e o rx Q' G => by
  obtain ⟨a, vs, rfl, g1, g2⟩ := s1.lstI e o rx
  refine SlR.w sl_list ⟨a, vs, rfl, SqL.of g1, fun p hp => ?_⟩
  obtain ⟨l2, o2, rp⟩ := new_lst o hp (cut_v lo hi g2)
  exact G _ (.im (.lst (cutD l lo hi))) _ l2 o2 rp (by rw [← e] at q; exact q)
theorem wsl_tup {l : List D} {lo hi : Option Int} (q : Q (.im (.tup (cutD l lo hi))) c) : WSl Y (.im (.tup l)) lo hi c Q := fun κ x e o rx Q' G => by
  obtain ⟨a, vs, rfl, g1, g2⟩ := rx
  refine SlR.w sl_tupA ⟨a, vs, rfl, ex_t o.ex g1, fun hw => ?_, fun hw p hp => ?_⟩
  · have : cutD l lo hi = l := by
      unfold cutD
      rw [g2.len] at hw
      rw [hw.1, hw.2, List.drop_zero, Nat.sub_zero, List.take_length]
    rw [this] at q
    exact G _ (.im (.tup l)) κ (.refl _) o ⟨a, vs, rfl, g1, g2⟩ (by rw [e]; exact q)
  · obtain ⟨l2, o2, rp⟩ := new_tup o hp (cut_v lo hi g2)
    exact G _ (.im (.tup (cutD l lo hi))) _ l2 o2 rp (by rw [← e] at q; exact q)
end
/-! ### t[::-1] -/
theorem sliceApplied_rev {prog : Program} {w : World} {A : Around} {E : Value → Shared → Prop} {s : Shared} {sl : Addr} {t : Tok} {n : Nat} {Q : Int × Int × Nat → Shared → Prop} (hs : s.heap.IsSliceOf sl .none .none (.int (-1) t))
    (h : Q ((n : Int) - 1, -1, n) s) : wpAny (model prog w) A (Builtin.Slice.sliceApplied (.ref sl) (pure (n : Int))) Q E s := by
  obtain ⟨os, hos, hcs, hds⟩ := id hs
  unfold Builtin.Slice.sliceApplied Builtin.Slice.sliceFields
  refine wpAny_bind (wpAny_bind (wpAny_field hos hds (x := .none) rfl (wpAny_bind (wpAny_field hos hds (x := .none) rfl (wpAny_bind (wpAny_field hos hds (x := .int (-1) t) rfl (wpAny_pure ?_)))))))
  refine wpAny_bind (slicePart_int ?_)
  show wpAny _ _ (if ((-1 : Int) == 0) = true then _ else _) _ _ s
  rw [if_neg (by decide)]
  refine wpAny_bind (slicePart_none (wpAny_bind (slicePart_none (wpAny_bind (wpAny_pure ?_)))))
  show wpAny _ _ (match Builtin.Slice.sliceAdjust none none (-1) (n : Int) with | (lo, hi) => pure (lo, (-1 : Int), Builtin.Slice.slicePlaces lo hi (-1))) _ _ s
  have e1 : Builtin.Slice.sliceAdjust none none (-1) (n : Int) = ((n : Int) - 1, -1) := rfl
  rw [e1]
  show wpAny _ _ (pure ((n : Int) - 1, (-1 : Int), Builtin.Slice.slicePlaces ((n : Int) - 1) (-1) (-1))) _ _ s
  have e2 : Builtin.Slice.slicePlaces ((n : Int) - 1) (-1) (-1) = n := by
    unfold Builtin.Slice.slicePlaces
    rw [if_neg (by decide), Int.neg_neg, Int.ediv_one]
    split <;> omega
  rw [e2]
  exact wpAny_pure h
theorem pick_rev (xs : Array Value) : ((List.range xs.size).filterMap fun (m : Nat) => xs[(((xs.size : Int) - 1) + (m : Int) * (-1)).toNat]?).toArray = xs.toList.reverse.toArray := by
  congr 1
  apply List.ext_getElem?
  intro i
  have gen : ∀ (f : Nat → Option Value) (g : Nat → Value) (n : Nat), (∀ m, m < n → f m = some (g m)) → (List.range n).filterMap f = (List.range n).map g := by
    intro f g n
    induction n with
    | zero => intro _; rfl
    | succ n ih =>
      intro h
      rw [List.range_succ, List.filterMap_append, List.map_append, ih fun m hm => h m (by omega)]
      congr 1
      show [n].filterMap f = [g n]
      rw [List.filterMap_cons, h n (by omega)]; rfl
  rw [gen _ (fun m => xs.toList.reverse.getD m .none) xs.size (fun m hm => by
    have e : (((xs.size : Int) - 1) + (m : Int) * (-1)).toNat = xs.size - 1 - m := by omega
    rw [e, List.getD_eq_getElem?_getD, List.getElem?_reverse (by simpa using hm), Array.length_toList]
    have : xs.size - 1 - m < xs.size := by omega
    simp [this])]
  by_cases hi : i < xs.size
  · rw [List.getElem?_map, List.getElem?_range hi]
    show some (xs.toList.reverse.getD i .none) = _
    rw [List.getD_eq_getElem?_getD, List.getElem?_eq_getElem (by simpa using hi)]
    rfl
  · rw [List.getElem?_eq_none (by simpa using hi), List.getElem?_eq_none (by simpa using hi)]
theorem getItem_tuple_rev {prog : Program} {w : World} {A : Around} {E : Value → Shared → Prop} {s : Shared} {t sl : Addr} {items : Array Value} {tk : Tok} {Q : Value → Shared → Prop} (ht : IsTup s.heap t items) (hs : s.heap.IsSliceOf sl .none .none (.int (-1) tk))
    (h : Q (.ref s.heap.objs.size) { s with heap := s.heap.push { cls := .type "tuple", data := .seq items.toList.reverse.toArray } })
    (hsz : items.size ≤ sizeLine) : wpAny (model prog w) A (getItem (.ref t) (.ref sl)) Q E s := by
  have htake : sizeOk (.seq items.toList.reverse.toArray) := by
    show items.toList.reverse.toArray.size ≤ sizeLine
    simpa using hsz
  obtain ⟨os, hos, hcs, hds⟩ := id hs
  have hTs : s.TypeIs (.ref sl) "slice" := ⟨os, hos, hcs⟩
  unfold getItem
  try with_reducible refine wpAny_holding ?_
  first | refine wpAny_bind (wpAny_pure ?_) | skip
  refine wpAny_bind (wpAny_sequenceKey ht.typeIs (by decide) ?_)
  refine wpAny_bind (wpAny_callSpecial?_slot (name := Str.ofString "__getitem__") ht.typeIs PyProof.Rows.slot_tuple_getitem
    (wpAny_call_entry PyProof.Rows.slot_tuple_getitem ht.typeIs entry_tuple_getitem ?_ (args_tuple_getitem _ _)))
  show wpAny _ _ (Builtin.Tuple.tupleItemsOf (.ref t) >>= _) _ _ s
  refine wpAny_bind (tupleItemsOf_ ht ?_)
  refine wpAny_bind (wpAny_typeOf hTs ?_)
  rw [if_pos (by decide)]
  refine wpAny_bind (sliceApplied_rev hs ?_)
  have hno : ¬ (((((items.size : Int) - 1) == 0 && (-1 : Int) == 1 && items.size == items.size)) = true) := by
    intro q
    rw [Bool.and_eq_true, Bool.and_eq_true] at q
    exact absurd q.1.2 (by decide)
  show wpAny _ _ (if ((((items.size : Int) - 1) == 0 && (-1 : Int) == 1 && items.size == items.size)) = true then _ else _) _ _ s
  rw [if_neg hno, pick_rev]
  first
    | exact wpAny_bind (m := Builtin.Tuple.tupleExact _) (wpAny_newObj_type (wpAny_pure ⟨_, rfl, wpAny_pure h⟩) htake)
    | exact wpAny_bind (m := Builtin.Tuple.tupleExact _) (wpAny_newObj_type (wpAny_bind (wpAny_pure (wpAny_pure ⟨_, rfl, wpAny_pure h⟩))) htake)
    | exact wpAny_bind (wpAny_bind (m := Builtin.Tuple.tupleExact _) (wpAny_newObj_type (wpAny_pure (wpAny_pure ⟨_, rfl, wpAny_pure h⟩)) htake))
    | exact wpAny_bind (wpAny_bind (m := Builtin.Tuple.tupleExact _) (wpAny_newObj_type (wpAny_pure ⟨_, rfl, wpAny_pure h⟩) htake))
def tRevT (K : PySem.W.Frag) (te : TE) : TE := fun σ H Q => te σ H fun x H1 => ∃ a xs, x = .ref a ∧ SqT K H1 a xs ∧ ∀ p, H1 p = none → Q (.ref p) (upd H1 p (.tup xs.reverse))
theorem pe_revT {X : Cx} {e : Expr} {te : TE} {k : Nat} {p1 p2 p3 pos : Pos} (he : PE X e te) : PE X (.Subscript e (.Slice none none (some (.UnaryOp .USub (.Constant (.int 1) k p1) p2)) p3) pos) (tRevT X.K te) := by
  refine ⟨fun pins s σ H Q I h => ?_⟩
  refine Subscript_ (thn (he.run pins s σ H _ I h) fun v s1 ⟨x, H1, I1, r1, q1⟩ => ?_)
  obtain ⟨a, xs, ex, hx, q⟩ := q1
  subst ex
  cases r1
  have hst : PE X (.UnaryOp .USub (.Constant (.int 1) k p1) p2) (tUn (rU fun i => .int (-i)) (tC (.int 1))) := pe_un un_neg pe_int
  refine wpAny_Slice ?_
  rw [evalPart_none]
  refine wpAny_pure (wpAny_pure ?_)
  rw [evalPart_some]
  refine thn (hst.run pins s1 σ H1 (fun o H4 => o = .int (-1) ∧ H4 = H1) I1 ⟨1, rfl, rfl, rfl⟩) fun vs s4 ⟨o, H4, I4, ps, eo, e4⟩ => ?_
  subst eo e4
  obtain ⟨t, rfl⟩ := ps
  have I5 : Inv X pins σ H4 { s4 with heap := s4.heap.push { cls := .type "slice", data := .fields #[.none, .none, .int (-1) t] } } := I4.kept (t' := s4.toks) fun b ob q => Heap.get?_push_of_some _ q
  obtain ⟨its, r, ht, hz⟩ := I5.tuple hx
  have hlen := r.length
  show wpAny (model X.prog X.w) X.A (subscriptTail e (.Slice none none (some (.UnaryOp .USub (.Constant (.int 1) k p1) p2)) p3) (.ref a) (.ref s4.heap.objs.size)) (EP X pins σ Q) X.xe { s4 with heap := s4.heap.push { cls := .type "slice", data := .fields #[.none, .none, .int (-1) t] } }
  refine tail_any (ops := [.ref a, .ref s4.heap.objs.size]) ht.typeIs PyProof.Rows.slot_tuple_getitem.lookup ?_ (by with_unfolding_all rfl)
  refine getItem_tuple_rev ht (Heap.IsSliceOf.new _ .none .none (.int (-1) t)) ?_ (by rw [List.size_toArray]; omega)
  refine ⟨.ref _, _, I5.laid (t' := s4.toks) (o := .tup xs.reverse) (fun b ob q => Heap.get?_push_of_some _ q) (Nat.le_refl _) ?_, rfl, q _ (I5.hok.fresh (Nat.le_refl _))⟩
  refine ⟨by rw [List.length_reverse]; exact hz, its.reverse, r.reverse, ?_⟩
  exact IsTup.new _ _
section
variable {Y : Cy} {ρ : Ρ} {c : List Cell} {Q : KQ} {pos : Pos}
theorem we_revT {a : Expr} {k : Nat} {p1 p2 p3 : Pos} (h : WE Y ρ c a fun w c1 => ∃ l, w = .im (.tup l) ∧ Q (.im (.tup l.reverse)) c1) : WE Y ρ c (.Subscript a (.Slice none none (some (.UnaryOp .USub (.Constant (.int 1) k p1) p2)) p3) pos) Q := fun κ σ hc o r g Q' G =>
  PE.w (pe_revT pe_w) (h.bind hc o r g fun v w κ1 l1 o1 r1 g1 rw1 ⟨l, e, q⟩ => by
    subst e
    obtain ⟨a, vs, rfl, g1, g2⟩ := rw1
    refine ⟨a, vs, rfl, ex_t o1.ex g1, fun p hp => ?_⟩
    obtain ⟨l2, o2, rp⟩ := new_tup o1 hp (Rps.rev g2)
    exact G _ (.im (.tup l.reverse)) _ (l1.trans l2) o2 rp q)
end
end WL
/-! Attributes, methods, instances, raise, try over plain data. -/
namespace WL
open PySem PySem.Spec PyProof.Rows L2
/-! ### a field -/
def atF : List Str → List W → Str → Option W
  | k :: ks, d :: ds, j => if k = j then some d else atF ks ds j
  | _, _, _ => none
def putW : List Str → List W → Str → W → List Str × List W
  | k :: ks, d :: ds, j, e => if k = j then (k :: ks, e :: ds) else ((k :: (putW ks ds j e).1), (d :: (putW ks ds j e).2))
  | _, _, j, e => ([j], [e])
theorem lookup_pos {g x : Str} {v : V} {r : List (Str × V)} (h : g = x) : List.lookup x ((g, v) :: r) = some v := by
  subst h
  simp [List.lookup]
theorem lookup_neg {g x : Str} {v : V} {r : List (Str × V)} (h : ¬ g = x) : List.lookup x ((g, v) :: r) = r.lookup x := by
  have : (x == g) = false := by simpa using fun e => h e.symm
  simp [List.lookup, this]
theorem atF_v {K : PySem.W.Frag} {I : Hp} {th : List Addr} : ∀ {ks : List Str} {l : List W} {vs : List V} {j : Str} {w : W}, ks.length = vs.length → RWs K I th l vs → atF ks l j = some w → ∃ v, (ks.zip vs).lookup j = some v ∧ RW K I th w v
  | [], l, vs, j, w, e, h, q => by simp [atF] at q
  | k :: ks, [], vs, j, w, e, h, q => by simp [atF] at q
  | k :: ks, d :: ds, _, j, w, e, ⟨v, r, h1, h2, h3⟩, q => by
    subst h1
    by_cases z : k = j
    · rw [show atF (k :: ks) (d :: ds) j = if k = j then some d else atF ks ds j from rfl, if_pos z] at q
      cases q
      exact ⟨v, lookup_pos z, h2⟩
    · rw [show atF (k :: ks) (d :: ds) j = if k = j then some d else atF ks ds j from rfl, if_neg z] at q
      obtain ⟨v', g1, g2⟩ := atF_v (by simpa using e) h3 q
      exact ⟨v', by rw [List.zip_cons_cons, lookup_neg z]; exact g1, g2⟩
theorem putW_v {K : PySem.W.Frag} {I : Hp} {th : List Addr} : ∀ {ks : List Str} {l : List W} {vs : List V} (j : Str) {w : W} {u : V}, ks.length = vs.length → RWs K I th l vs → RW K I th w u →
    ∃ ws, putF j u (ks.zip vs) = (putW ks l j w).1.zip ws ∧ (putW ks l j w).1.length = ws.length ∧ RWs K I th (putW ks l j w).2 ws
  | [], l, vs, j, w, u, e, h, r => by
    have : vs = [] := List.eq_nil_of_length_eq_zero (by simpa using e.symm)
    subst this
    cases l with
    | nil => exact ⟨[u], rfl, rfl, ⟨u, [], rfl, r, rfl⟩⟩
    | cons d ds => obtain ⟨_, _, z, _⟩ := h; cases z
  | k :: ks, [], vs, j, w, u, e, h, r => by rw [show vs = [] from h] at e; simp at e
  | k :: ks, d :: ds, _, j, w, u, e, ⟨v, r, h1, h2, h3⟩, rw_ => by
    subst h1
    have e' : ks.length = r.length := by simpa using e
    by_cases z : k = j
    · refine ⟨u :: r, ?_, ?_, ?_⟩
      · rw [show putW (k :: ks) (d :: ds) j w = if k = j then (k :: ks, w :: ds) else ((k :: (putW ks ds j w).1), (d :: (putW ks ds j w).2)) from rfl, if_pos z]
        show (if k = j then (k, u) :: ks.zip r else (k, v) :: putF j u (ks.zip r)) = _
        rw [if_pos z]; rfl
      · rw [show putW (k :: ks) (d :: ds) j w = if k = j then (k :: ks, w :: ds) else ((k :: (putW ks ds j w).1), (d :: (putW ks ds j w).2)) from rfl, if_pos z]; simp [e']
      · rw [show putW (k :: ks) (d :: ds) j w = if k = j then (k :: ks, w :: ds) else ((k :: (putW ks ds j w).1), (d :: (putW ks ds j w).2)) from rfl, if_pos z]; exact ⟨u, r, rfl, rw_, h3⟩
    · obtain ⟨ws, g1, g2, g3⟩ := putW_v j e' h3 rw_
      refine ⟨v :: ws, ?_, ?_, ?_⟩
      · rw [show putW (k :: ks) (d :: ds) j w = if k = j then (k :: ks, w :: ds) else ((k :: (putW ks ds j w).1), (d :: (putW ks ds j w).2)) from rfl, if_neg z]
        show (if k = j then (k, u) :: ks.zip r else (k, v) :: putF j u (ks.zip r)) = _
        rw [if_neg z, g1]; rfl
      · rw [show putW (k :: ks) (d :: ds) j w = if k = j then (k :: ks, w :: ds) else ((k :: (putW ks ds j w).1), (d :: (putW ks ds j w).2)) from rfl, if_neg z]; simp [g2]
      · rw [show putW (k :: ks) (d :: ds) j w = if k = j then (k :: ks, w :: ds) else ((k :: (putW ks ds j w).1), (d :: (putW ks ds j w).2)) from rfl, if_neg z]; exact ⟨v, ws, rfl, h2, g3⟩
theorem Rps.rws {K : PySem.W.Frag} {I : Hp} {th : List Addr} : ∀ {l : List D} {vs : List V}, Rps K I l vs → RWs K I th (l.map W.im) vs
  | [], _, h => h
  | d :: ds, _, ⟨v, r, h1, h2, h3⟩ => ⟨v, r, h1, h2, Rps.rws h3⟩
section
variable {Y : Cy} {n0 : Nat} {ρ : Ρ} {c : List Cell} {Z : EndsW} {Q : KQ} {pos : Pos}
/-- what an object holds: its class, its attributes -/
inductive Ob (c : List Cell) : W → Addr → List Str → List W → Prop where
  | im {C : Addr} {ns : List Str} {l : List D} : Ob c (.im (.obj C ns l)) C ns (l.map W.im)
  | ce {n : Nat} {C : Addr} {ns : List Str} {ws : List W} (h : c[n]? = some (.ins C ns ws)) : Ob c (.ce n) C ns ws
theorem Ob.at_ {K : PySem.W.Frag} {κ : Wd} {w : W} {C : Addr} {ns : List Str} {ws : List W} {v : V} (h : Ob c w C ns ws) (hc : κ.c = c) (o : κ.Ok K) (r : RW K κ.I κ.th w v) : ∃ a dx vs, v = .ref a ∧ κ.H a = some (.ins C dx (ns.zip vs)) ∧ ns.length = vs.length ∧ RWs K κ.I κ.th ws vs := by
  subst hc
  cases h with
  | im =>
    obtain ⟨a, dx, vs, rfl, g1, g2, g3⟩ := r
    exact ⟨a, dx, vs, rfl, o.ex _ _ g1, g2, Rps.rws g3⟩
  | ce h =>
    obtain ⟨a, ha, rfl⟩ := r
    obtain ⟨dx, vs, g1, g2, g3⟩ := o.cl _ a _ ha h
    exact ⟨a, dx, vs, rfl, g1, g2, g3⟩
theorem ws_fld {o e : Expr} {f : Str} {pos' : Pos} {C : Addr} (cl : Cls Y.X.K C) (na : NoAttr Y.X.K C f) (h : WE Y ρ c e fun wv c1 => WE Y ρ c1 o fun wo c2 => ∃ n ns ws, wo = .ce n ∧ c2[n]? = some (.ins C ns ws) ∧ ns.length < 1000 ∧ Z.nx ρ (c2.set n (.ins C (putW ns ws f wv).1 (putW ns ws f wv).2)))
    (hs : swapsWith e (some (.Attribute o f pos')) pos.line Y.X.env = pure false := by rfl) : WS Y n0 ρ c (.Assign [.Attribute o f pos'] e pos) Z := fun κ0 κ σ h0 l hc ok r De E =>
  PS.w (ps_fld pe_w pe_w hs) (h.bind hc ok r (E.gox l r) fun v wv κ1 l1 o1 r1 g1 rw1 q1 => q1.bind rfl o1 r1 g1 fun vo wo κ2 l2 o2 r2 g2 rw2 ⟨n, ns, ws, e1, hn, hz, q⟩ => by
    subst e1
    obtain ⟨a, ha, rfl⟩ := rw2
    obtain ⟨dx, vs, k1, k2, k3⟩ := o2.cl n a _ ha hn
    obtain ⟨us, p1, p2, p3⟩ := putW_v f k2 k3 (rw1.le l2)
    have hl : (ns.zip vs).length < 1000 := by rw [List.length_zip, k2, Nat.min_self, ← k2]; exact hz
    refine ⟨a, C, dx, _, rfl, k1, cl, na, hl, ?_⟩
    have l3 := Wd.put_le (u := .ins C dx (putF f v (ns.zip vs))) (k := .ins C (putW ns ws f wv).1 (putW ns ws f wv).2) o2 ha
    exact E.nx σ ⟨κ2.I, upd κ2.H a (.ins C dx (putF f v (ns.zip vs))), κ2.th, κ2.c.set n (.ins C (putW ns ws f wv).1 (putW ns ws f wv).2)⟩ ρ (((l.trans l1).trans l2).trans l3)
      (o2.put ha ⟨dx, us, by rw [← p1]; exact upd_same, p2, p3⟩) (r2.le l3) q)
/-! ### methods of built-in types -/
theorem we_bm {o e : Expr} {es : List Expr} {name : Str} {apos cpos : Pos} {T id : String} (pa : PlainAttrs T) (slot : Slot T name id) (hty : typeOf (.builtin id) = pure (.type "method_descriptor"))
    (h : WE Y ρ c o fun w c1 => ∃ d, Sn c1 w d ∧ (T = "list" ∧ (∃ l, d = .lst l) ∨ T = "str" ∧ ∃ x, d = .str x) ∧ WA Y ρ c1 (e :: es) fun ws c2 => WM Y id w ws c2 Q)
    (hbase : attributeBase o name Y.X.env (eval o Y.X.env) = eval o Y.X.env := by rfl)
    (hfew : ((backTo cpos (starEach (e :: es) Y.X.env)).all (fun x => !x.1) && (backToKw cpos (keywordEach [] Y.X.env)).all (fun x => x.1.isSome)
      && decide ((e :: es).length + ([] : List Keyword).length + (if ([] : List Keyword).isEmpty then 0 else 1) < 30)) = true := by rfl)
    (hline : (apos.endLine == cpos.line) = true := by rfl) (hs : starEach (e :: es) Y.X.env = (false, eval e Y.X.env) :: starEach es Y.X.env := by rfl) (hplain : (backTo cpos (starEach es Y.X.env)).any (·.1) = false := by rfl) :
    WE Y ρ c (.Call (.Attribute o name apos) (e :: es) [] cpos) Q := fun κ σ hc ok r g Q' G =>
  PE.w (pe_bm pa slot hty mt_w pe_w pa_w hbase hfew hline hs hplain) (h.bind hc ok r g fun v w κ1 l1 o1 r1 g1 rw1 ⟨d, sn, hd, q1⟩ => by
    refine ⟨?_, q1.bind rfl o1 r1 g1 fun vs ws κ2 l2 o2 r2 g2 rws q2 => q2 κ2 v vs rfl o2 (rw1.le l2) rws Q' (GoV.le G (l1.trans l2))⟩
    rcases hd with ⟨rfl, l, rfl⟩ | ⟨rfl, x, rfl⟩
    · obtain ⟨a, vs, rfl, k1, k2⟩ := sn.rp rfl o1 rw1
      exact .inl ⟨rfl, vs, SqL.of k1⟩
    · cases (show v = .str x from sn.rp rfl o1 rw1)
      rfl)
theorem we_bm0 {o : Expr} {name : Str} {apos cpos : Pos} {T id : String} (pa : PlainAttrs T) (slot : Slot T name id) (hty : typeOf (.builtin id) = pure (.type "method_descriptor"))
    (h : WE Y ρ c o fun w c1 => ∃ d, Sn c1 w d ∧ (T = "list" ∧ (∃ l, d = .lst l) ∨ T = "str" ∧ ∃ x, d = .str x) ∧ WM Y id w [] c1 Q)
    (hbase : attributeBase o name Y.X.env (eval o Y.X.env) = eval o Y.X.env := by rfl) (hline : (apos.endLine == cpos.line) = true := by rfl) : WE Y ρ c (.Call (.Attribute o name apos) [] [] cpos) Q := fun κ σ hc ok r g Q' G =>
  PE.w (pe_bm0 pa slot hty mt_w pe_w hbase hline) (h.bind hc ok r g fun v w κ1 l1 o1 r1 g1 rw1 ⟨d, sn, hd, q1⟩ => by
    refine ⟨?_, q1 κ1 v [] rfl o1 rw1 rfl Q' (GoV.le G l1)⟩
    rcases hd with ⟨rfl, l, rfl⟩ | ⟨rfl, x, rfl⟩
    · obtain ⟨a, vs, rfl, k1, k2⟩ := sn.rp rfl o1 rw1
      exact .inl ⟨rfl, vs, SqL.of k1⟩
    · cases (show v = .str x from sn.rp rfl o1 rw1)
      rfl)
theorem wm_append {n : Nat} {l : List D} {d : D} (hc : c[n]? = some (.lst l)) (hz : l.length < 1000000) (q : Q (.im .non) (c.set n (.lst (l ++ [d])))) : WM Y "list.append" (.ce n) [.im d] c Q := fun κ x xs ec ok rx rs Q' G => by
  subst ec
  obtain ⟨a, ha, rfl⟩ := rx
  obtain ⟨vs, g1, g2⟩ := ok.cl n a _ ha hc
  obtain ⟨v, rr, rfl, rv, hn⟩ := rs
  have hn : rr = [] := hn
  subst hn
  refine MtR.w mt_append ⟨a, vs, v, rfl, rfl, g1, by rw [g2.len]; exact Nat.lt_of_lt_of_le hz (by decide), ?_⟩
  exact G .non (.im .non) ⟨κ.I, upd κ.H a (.lst (vs ++ [v])), κ.th, κ.c.set n (.lst (l ++ [d]))⟩ (Wd.put_le ok ha) (ok.put ha ⟨vs ++ [v], upd_same, Rps.snoc g2 rv⟩) rfl q
theorem wm_extend {n : Nat} {l m : List D} {w : W} (hc : c[n]? = some (.lst l)) (s2 : Sn c w (.lst m)) (hz : l.length + m.length ≤ 1000000) (q : Q (.im .non) (c.set n (.lst (l ++ m)))) : WM Y "list.extend" (.ce n) [w] c Q := fun κ x xs ec ok rx rs Q' G => by
  obtain ⟨v, rr, rfl, rv, hn⟩ := rs
  have hn : rr = [] := hn
  subst hn
  obtain ⟨b, us, rfl, k1, k2⟩ := s2.lstI ec ok rv
  subst ec
  obtain ⟨a, ha, rfl⟩ := rx
  obtain ⟨vs, g1, g2⟩ := ok.cl n a _ ha hc
  refine MtR.w mt_extend ⟨a, b, vs, us, rfl, rfl, g1, k1, by rw [g2.len, k2.len]; exact sz_of hz, ?_⟩
  exact G .non (.im .non) ⟨κ.I, upd κ.H a (.lst (vs ++ us)), κ.th, κ.c.set n (.lst (l ++ m))⟩ (Wd.put_le ok ha) (ok.put ha ⟨vs ++ us, upd_same, Rps.append g2 k2⟩) rfl q
theorem Rps.dropLast {K : PySem.W.Frag} {I : Hp} {l : List D} {vs : List V} (h : Rps K I l vs) : Rps K I l.dropLast vs.dropLast := by
  rw [List.dropLast_eq_take, List.dropLast_eq_take, h.len]; exact Rps.take _ h
theorem wm_pop {n : Nat} {l : List D} {d : D} (hc : c[n]? = some (.lst l)) (hd : l[l.length - 1]? = some d) (q : Q (.im d) (c.set n (.lst l.dropLast))) : WM Y "list.pop" (.ce n) [] c Q := fun κ x xs ec ok rx rs Q' G => by
  subst ec
  obtain ⟨a, ha, rfl⟩ := rx
  obtain ⟨vs, g1, g2⟩ := ok.cl n a _ ha hc
  have hn : xs = [] := rs
  subst hn
  obtain ⟨v, h1, h2⟩ := g2.get hd
  refine MtR.w mt_pop ⟨a, vs, v, rfl, rfl, g1, by rw [g2.len]; exact h1, ?_⟩
  exact G v (.im d) ⟨κ.I, upd κ.H a (.lst vs.dropLast), κ.th, κ.c.set n (.lst l.dropLast)⟩ (Wd.put_le ok ha) (ok.put ha ⟨vs.dropLast, upd_same, Rps.dropLast g2⟩) h2 q
theorem Rps.erase {K : PySem.W.Frag} {I : Hp} : ∀ (i : Nat) {l : List D} {vs : List V}, Rps K I l vs → Rps K I (l.eraseIdx i) (vs.eraseIdx i)
  | _, [], _, h => by rw [show _ = [] from h]; exact Rps.nil
  | 0, d :: ds, _, ⟨v, r, h1, h2, h3⟩ => by rw [h1]; exact h3
  | i + 1, d :: ds, _, ⟨v, r, h1, h2, h3⟩ => by rw [h1]; exact Rps.cons h2 (Rps.erase i h3)
theorem wm_popAt {n k : Nat} {l : List D} {i : Int} {d : D} (hc : c[n]? = some (.lst l)) (hi : -(2 ^ 63) ≤ i ∧ i < 2 ^ 63) (hk : seqIndex? i l.length = some k) (hd : l[k]? = some d) (q : Q (.im d) (c.set n (.lst (l.eraseIdx k)))) : WM Y "list.pop" (.ce n) [.im (.int i)] c Q := fun κ x xs ec ok rx rs Q' G => by
  subst ec
  obtain ⟨a, ha, rfl⟩ := rx
  obtain ⟨vs, g1, g2⟩ := ok.cl n a _ ha hc
  obtain ⟨v0, rr, rfl, rv, hn⟩ := rs
  have hn : rr = [] := hn
  subst hn
  cases (show v0 = .int i from rv)
  obtain ⟨v, h1, h2⟩ := g2.get hd
  refine MtR.w mt_popAt ⟨a, vs, i, k, v, rfl, rfl, g1, hi.1, hi.2, by rw [g2.len]; exact hk, h1, ?_⟩
  exact G v (.im d) ⟨κ.I, upd κ.H a (.lst (vs.eraseIdx k)), κ.th, κ.c.set n (.lst (l.eraseIdx k))⟩ (Wd.put_le ok ha) (ok.put ha ⟨vs.eraseIdx k, upd_same, Rps.erase k g2⟩) h2 q
/-! ### instances -/
theorem run_makeS {X : Cx} {CX : CXT} {k : Nat} {f C : Addr} {fd : FuncData} {ps : List Str} {sp : Sp} {E : XK} {pins : List (Addr × Obj)} {σ : L2.St} {H : Hp} {s : Shared} {Q : VK} {us : List Value} {vs : List V} (M : Mk X.K C f) (F : FnOk X.prog X.w X.K X.mg X.base CX k f fd ps sp) (hr : Room (k + 1) X.A) (hb : Binds X.K fd ps [])
    (hx : PassesAt CX X σ E) (I : Inv X pins σ H s) (r : Vals vs us)
    (h : ∀ x dx, H x = none → H dx = none → dx ≠ x → sp (.ref x :: vs) (upd (upd H dx (.own x)) x (.ins C dx [])) (fun v H2 => v = .non ∧ Q (.ref x) H2) E) :
    wpAny (model X.prog X.w) X.A (call (.ref C) us) (EP X pins σ Q) X.xe s := by
  have hq := h (s.heap.objs.size + 1) s.heap.objs.size (I.hok.fresh (Nat.le_succ _)) (I.hok.fresh (Nat.le_refl _)) (Nat.ne_of_lt (Nat.lt_succ_self _))
  have I2 := Inv.made (C := C) I
  have r2 : Vals (V.ref (s.heap.objs.size + 1) :: vs) (Value.ref (s.heap.objs.size + 1) :: us) := .cons rfl r
  have hl : (Value.ref (s.heap.objs.size + 1) :: us ++ []).length = ps.length := by
    rw [List.append_nil]
    have e := r2.length
    rw [F.len _ _ _ _ hq] at e
    exact e.symm
  have bb := hb { s with heap := (s.heap.push PySem.W.emptyDict).push (PySem.W.instObj C s.heap.objs.size) } (Value.ref (s.heap.objs.size + 1) :: us) I2.kIn hl
  rw [List.append_nil] at bb
  refine wpAny_call (make_map (f := f) I.kIn M.makes M.init (beq_iff_eq.mp M.fn) (codeAny_mono (F.run _ X.stack _ _ ⟨Value.ref (s.heap.objs.size + 1) :: us, []⟩ (Value.ref (s.heap.objs.size + 1) :: us) _ _ E (hr.make C us [])
    (I2.env0.make C us []) bb r2 hq) fun r s' hq' => ?_))
  cases r with
  | error e => exact hx pins _ _ e s' I2 hq'
  | ok fl =>
    cases fl with
    | ret u =>
      obtain ⟨v, H', I3, rv, ev, q3⟩ := I2.after hq'
      subst ev
      exact ⟨rv, ⟨V.ref (s.heap.objs.size + 1), H', I3, rfl, q3⟩⟩
    | next => exact False.elim hq'
    | brk => exact False.elim hq'
    | cont => exact False.elim hq'
/-- a class that is made: its name, its __init__ and its promise -/
structure HasMk (P : Program) (w : World) (K : PySem.W.Frag) (mg : Str → Option Value) (base : Heap) (k : Nat) (x : Str) (C : Addr) (ps : List Str) (F : FSp) : Prop where
  ex : ∃ (f : Addr) (fd : FuncData), mg x = some (.ref C) ∧ Mk K C f ∧ FnOk P w K mg base (L2.CX P w) k f fd ps (spOf K F) ∧ Binds K fd ps []
/-- C(e, ..): a new cell, then __init__ -/
theorem we_make {k : Nat} {x : Str} {C : Addr} {ps : List Str} {F : FSp} {p : Pos} {e : Expr} {es : List Expr} (hf : HasMk Y.X.prog Y.X.w Y.X.K Y.X.mg Y.X.base k x C ps F) (hr : Room (k + 1) Y.X.A) (hg : Gl Y.X x)
    (h : WA Y ρ c (e :: es) fun ws c1 => F (.ce c1.length :: ws) (c1 ++ [.ins C [] []]) (fun w c2 => w = .im .non ∧ Q (.ce c1.length) c2) fun x c2 => Y.Qx x ρ c2) (hdb : (x == ("__debug__" : Str)) = false := by decide) (he : starEach (e :: es) Y.X.env = (false, eval e Y.X.env) :: starEach es Y.X.env := by rfl) (hpl : (backTo pos (starEach es Y.X.env)).any (·.1) = false := by rfl) :
    WE Y ρ c (.Call (.Name x p) (e :: es) [] pos) Q := fun κ σ hc o r g Q' G => by
  obtain ⟨f, fd, hm, M, hF, hb⟩ := hf.ex
  intro pins s I
  refine wpAny_Call_Name_kw (ld_glob I hg hm ?_ hdb)
  have hA := h.bind (R := fun vs H1 => ∃ κ1 ws, κ1.H = H1 ∧ κ.le κ1 ∧ κ1.Ok Y.X.K ∧ REnv Y.X.K κ1 σ ρ ∧ GoX Y κ1 σ ρ ∧ RWs Y.X.K κ1.I κ1.th ws vs ∧ F (.ce κ1.c.length :: ws) (κ1.c ++ [.ins C [] []]) (fun w c2 => w = .im .non ∧ Q (.ce κ1.c.length) c2) fun x c2 => Y.Qx x ρ c2) hc o r g
    fun vs ws κ1 l1 o1 r1 g1 rws q => ⟨κ1, ws, rfl, l1, o1, r1, g1, rws, q⟩
  refine PySem.W.callWith_K (h₀ := Y.X.base) I.ok.mod.kin M.kp (thn (hA pos pins s I) fun us s1 ⟨vs, H1, I1, rv, q⟩ => ⟨I1.kIn, ?_⟩) he hpl
  obtain ⟨κ1, ws, rfl, l1, o1, r1, g1, rws, q⟩ := q
  refine run_makeS M hF hr hb (E := L2.WE Y.Wx σ) (passAt Y.tk σ) I1 rv fun xa dx hx hdx ne => ?_
  have ox := o1.aux (u := .own xa) hdx
  have lx := Wd.aux_le (κ := κ1) (u := .own xa) hdx
  have hx2 : upd κ1.H dx (.own xa) xa = none := by rw [upd_ne (Ne.symm ne)]; exact hx
  have lc := Wd.cell_le (κ := ⟨κ1.I, upd κ1.H dx (.own xa), κ1.th, κ1.c⟩) (u := .ins C dx []) (k := .ins C [] []) hx2
  have oc := Wd.Ok.cell (κ := ⟨κ1.I, upd κ1.H dx (.own xa), κ1.th, κ1.c⟩) (u := .ins C dx []) (k := .ins C [] []) ox hx2 ⟨dx, [], upd_same, rfl, rfl⟩
  have ll := lx.trans lc
  have rself : RW Y.X.K κ1.I (κ1.th ++ [xa]) (.ce κ1.c.length) (.ref xa) := ⟨xa, by rw [← o1.len]; simp, rfl⟩
  refine ⟨⟨κ1.I, upd (upd κ1.H dx (.own xa)) xa (.ins C dx []), κ1.th ++ [xa], κ1.c ++ [.ins C [] []]⟩, .ce κ1.c.length :: ws, rfl, oc, ⟨.ref xa, vs, rfl, rself, rws.le ll⟩, _, _, q, fun v w κ' l' o' rw' q' => ?_, fun x' C' d' κ' l' o' rx q' => ?_⟩
  · obtain ⟨e1, q2⟩ := q'
    subst e1
    exact ⟨rw', G (.ref xa) (.ce κ1.c.length) κ' ((l1.trans ll).trans l') o' (RW.le l' rself) q2⟩
  · exact g1.ex x' C' d' κ' (ll.trans l') o' rx q'
/-! ### raise -/
/-- an exception class of one's own without __init__ -/
structure ExcC (K : PySem.W.Frag) (mg : Str → Option Value) (x : Str) (C : Addr) : Prop where
  g : mg x = some (.ref C)
  ex : PySem.W.excIn K C [.type "ValueError", .type "Exception", .type "BaseException", .type "object"] "ValueError.__new__" = true
  kp : PySem.W.keepIn K (.ref C) = true
  sb : PySem.W.subIn K (.ref C) (.type "BaseException") = some true
  ty : PySem.W.typeIn K (.ref C) = some (.type "type")
theorem pmk_own0 {X : Cx} {C : Addr} {x : Str} {p pos : Pos} {B newId initId : String} {bmB : List Value} (F : ExcBaseFacts B newId initId bmB) (q : PySem.W.excIn X.K C bmB newId = true) (gC : X.mg x = some (.ref C)) (kC : PySem.W.keepIn X.K (.ref C) = true) (r : Raises X (.ref C)) (hg : Gl X x)
    (hdb : (x == ("__debug__" : Str)) = false := by decide) : PMk X (.Call (.Name x p) [] [] pos) (fun _ H Q => Q (.ref C) none H) := by
  intro pins s σ H Q I h
  refine wpAny_Call_Name_kw (ld_glob I hg gC ?_ hdb)
  refine PySem.W.callWith_K0 I.kIn kC ?_
  show wpAny _ _ (call (.ref C) []) _ _ _
  obtain ⟨bm, N, nm, qn, bs, hdct, sn, sub, ab, col, dd, k0, k1, k2, k3, k5, mN, hC, hN, hni, T⟩ := exc_obj I.kIn q
  refine wpAny_call_exc_subT F T hC hN hni (fun h' e hm => ?_) (by show 0 ≤ sizeLine; exact Nat.zero_le _)
  exact mk_of I hm r h (I.hok.gone hm.new)
theorem ws_raise0 {x : Str} {C : Addr} {p pp : Pos} (hcm : Y.X.calm = true) (T : ExcC Y.X.K Y.X.mg x C) (hg : Gl Y.X x) (q : Y.Qx ⟨C, [], []⟩ ρ c) (hdb : (x == ("__debug__" : Str)) = false := by decide) : WS Y n0 ρ c (.Raise (some (.Call (.Name x p) [] [] pp)) none pos) Z := fun κ0 κ σ h0 l hc o r De E =>
  PS.w (ps_raise hcm Y.tk (pmk_own0 PySem.F.excBase_ValueError T.ex T.g T.kp (raises_own T.sb T.ty) hg hdb)) (E.ex ⟨C, [], []⟩ (.ref C) none σ κ ρ l o r ⟨rfl, .inl ⟨rfl, rfl, rfl⟩⟩ (by rw [hc]; exact q))
/-! ### try -/
def Cy.tr (Y : Cy) (pn : List (Addr × Obj)) (W : WX) (xe : Value → Shared → Prop) (tk : Takes (Y.X.tr pn xe) W) (po : PassesOwn (model Y.X.prog Y.X.w) Y.X.A Y.X.env xe) (Qx : Exn → Ρ → List Cell → Prop) : Cy := ⟨Y.X.tr pn xe, W, tk, po, Qx⟩
def Cy.suite (Y : Cy) (a : Addr) (pn : List (Addr × Obj)) : Cy := ⟨Y.X.suite a pn, fun _ _ _ _ => False, takes0, PassesOwn.never, fun _ _ _ => False⟩
def suiteT (Y : Cy) (s : List Stmt) : Addr → Value → Option Addr → TS := fun a cls d D σ H => ∀ (oe : Obj) (pn : List (Addr × Obj)), wSs (Y.X.suite a ((a, oe) :: pn)) s D σ H
def suitesT (Y : Cy) : List (Addr × List Stmt) → List (Value × (Addr → Value → Option Addr → TS))
  | [] => []
  | (C, s) :: r => (.ref C, suiteT Y s) :: suitesT Y r
/-- the clauses as they stand -/
inductive HdsW (X : Cx) : List ExceptHandler → List (Addr × List Stmt) → Prop
  | nil : HdsW X [] []
  | cons {x : Str} {C : Addr} {b₀ : Stmt} {suite : List Stmt} {np pos' : Pos} {hds : List ExceptHandler} {l : List (Addr × List Stmt)} (hc : Names X x (.ref C)) (r : HdsW X hds l) : HdsW X (.ExceptHandler (some (.Name x np)) none (b₀ :: suite) pos' :: hds) ((C, b₀ :: suite) :: l)
theorem HdsW.ok {hds : List ExceptHandler} {l : List (Addr × List Stmt)} (h : HdsW Y.X hds l) : HdsOk Y.X hds (suitesT Y l) := by
  induction h with
  | nil => exact .nil
  | cons hc r ih => exact .cons hc (fun a oe cls d pn _ _ => ⟨fun pins s σ H D I q => q oe pn pins s I⟩) ih
end
end WL
/-! What joins the layer to a text's facts; the rules with all their sides open. -/
namespace WL
open PySem PySem.Spec PyProof.Rows L2
theorem funD_fun {K : PySem.W.Frag} {x qual : Str} {st : Stmt} {f : Addr} {fd : FuncData} (F : FunD K x qual (defArgs st) (defBody st) (defScope st) [] [] f fd) : Fun K x qual st f fd := by
  obtain ⟨⟨oc, od, dV, kV, doc, pm, an, cdv, ct, osl, rfl, lk, hc, hd, hk⟩, kp⟩ := F
  rcases hd with ⟨_, rfl⟩ | ⟨hn, _⟩
  · exact ⟨⟨oc, od, kV, doc, pm, an, cdv, ct, osl, rfl, lk, hc⟩, kp⟩
  · exact absurd rfl hn
theorem excC_of {K : PySem.W.Frag} {mg : Str → Option Value} {x : Str} (g : mg x = some (.ref (He.ga K x))) (c : (He.Fa.exc x).ok K = true) : ExcC K mg x (He.ga K x) := by
  obtain ⟨h1, h2, h3, h4⟩ := He.exc_ok c
  exact ⟨g, h1, h2, h3, h4⟩
/-- where a context stands -/
structure CyIs (Y : Cy) (P : Program) (w : World) (K : PySem.W.Frag) (mg : Str → Option Value) (base : Heap) : Prop where
  p : Y.X.prog = P
  w : Y.X.w = w
  K : Y.X.K = K
  m : Y.X.mg = mg
  b : Y.X.base = base
section
variable {Y : Cy} {ρ : Ρ} {c : List Cell} {Q : KQ} {P : Program} {w : World} {K : PySem.W.Frag} {mg : Str → Option Value} {base : Heap}
theorem we_callF {k : Nat} {x : Str} {ps : List Str} {F : FSp} {p pos : Pos} {e : Expr} {es : List Expr} (hf : HasFn P w K mg base k x ps F) (hY : CyIs Y P w K mg base) (hr : Room k Y.X.A) (hg : Gl Y.X x)
    (hdb : (x == ("__debug__" : Str)) = false) (he : starEach (e :: es) Y.X.env = (false, eval e Y.X.env) :: starEach es Y.X.env) (hpl : (backTo pos (starEach es Y.X.env)).any (·.1) = false)
    (h : WA Y ρ c (e :: es) fun ws c1 => F ws c1 Q fun x c2 => Y.Qx x ρ c2) :
    WE Y ρ c (.Call (.Name x p) (e :: es) [] pos) Q := by
  obtain ⟨rfl, rfl, rfl, rfl, rfl⟩ := hY
  exact we_call hf hr hg h hdb he hpl
theorem we_makeF {k : Nat} {x : Str} {C : Addr} {ps : List Str} {F : FSp} {p pos : Pos} {e : Expr} {es : List Expr} (hf : HasMk P w K mg base k x C ps F) (hY : CyIs Y P w K mg base) (hr : Room (k + 1) Y.X.A) (hg : Gl Y.X x)
    (hdb : (x == ("__debug__" : Str)) = false) (he : starEach (e :: es) Y.X.env = (false, eval e Y.X.env) :: starEach es Y.X.env) (hpl : (backTo pos (starEach es Y.X.env)).any (·.1) = false)
    (h : WA Y ρ c (e :: es) fun ws c1 => F (.ce c1.length :: ws) (c1 ++ [.ins C [] []]) (fun w c2 => w = .im .non ∧ Q (.ce c1.length) c2) fun x c2 => Y.Qx x ρ c2) :
    WE Y ρ c (.Call (.Name x p) (e :: es) [] pos) Q := by
  obtain ⟨rfl, rfl, rfl, rfl, rfl⟩ := hY
  exact we_make hf hr hg h hdb he hpl
theorem we_callBF {id : String} {x : Str} {p pos : Pos} {e : Expr} {es : List Expr} (hm : mg x = none) (hv : bootBuiltins x = some (.builtin id)) (hn : x ≠ "__name__") (hM : Y.X.mg = mg) (hg : Gl Y.X x)
    (hdb : (x == ("__debug__" : Str)) = false) (he : starEach (e :: es) Y.X.env = (false, eval e Y.X.env) :: starEach es Y.X.env) (hpl : (backTo pos (starEach es Y.X.env)).any (·.1) = false)
    (h : WA Y ρ c (e :: es) fun ws c1 => WC Y (.builtin id) ws c1 Q) :
    WE Y ρ c (.Call (.Name x p) (e :: es) [] pos) Q := we_callB hg (by rw [hM]; exact hm) hv h hn hdb he hpl
theorem we_callTyF {T : String} {x : Str} {p pos : Pos} {e : Expr} {es : List Expr} (hm : mg x = none) (hv : bootBuiltins x = some (.type T)) (hn : x ≠ "__name__") (hM : Y.X.mg = mg) (hg : Gl Y.X x)
    (hdb : (x == ("__debug__" : Str)) = false) (he : starEach (e :: es) Y.X.env = (false, eval e Y.X.env) :: starEach es Y.X.env) (hpl : (backTo pos (starEach es Y.X.env)).any (·.1) = false)
    (h : WA Y ρ c (e :: es) fun ws c1 => WC Y (.type T) ws c1 Q) :
    WE Y ρ c (.Call (.Name x p) (e :: es) [] pos) Q := we_callTy hg (by rw [hM]; exact hm) hv h hn hdb he hpl
/-- a built-in class as a value -/
theorem we_tyF {T : String} {x : Str} {pos : Pos} (hm : mg x = none) (hv : bootBuiltins x = some (.type T)) (hn : x ≠ "__name__") (hM : Y.X.mg = mg) (hg : Gl Y.X x) (hdb : (x == ("__debug__" : Str)) = false) (q : Q (.im (.ty T)) c) :
    WE Y ρ c (.Name x pos) Q := fun κ σ hc o r g Q' G =>
  PE.w (pe_bltn (v := .ty T) hg (by rw [hM]; exact hm) hv rfl hn hdb) (G (.ty T) (.im (.ty T)) κ (.refl _) o rfl (by rw [hc]; exact q))
theorem we_globF {x : Str} {u : Value} {d : D} {pos : Pos} (hm : mg x = some u) (hd : ∃ v, RelV v u ∧ ∀ I, Rp K I d v) (hK : Y.X.K = K) (hM : Y.X.mg = mg) (hg : Gl Y.X x) (hdb : (x == ("__debug__" : Str)) = false) (q : Q (.im d) c) : WE Y ρ c (.Name x pos) Q := by
  obtain ⟨v, hv, hd⟩ := hd
  subst hK; subst hM
  exact we_glob hg hm hv hd q hdb
theorem we_globI {x : Str} {i : Int} {pos : Pos} (hm : ∃ t, mg x = some (.int i t)) (hM : Y.X.mg = mg) (hg : Gl Y.X x) (hdb : (x == ("__debug__" : Str)) = false) (q : Q (.im (.int i)) c) : WE Y ρ c (.Name x pos) Q := by
  obtain ⟨t, hm⟩ := hm
  exact we_globF (K := Y.X.K) (d := .int i) hm ⟨.int i, ⟨t, rfl⟩, fun _ => rfl⟩ rfl hM hg hdb q
/-- plain values of a tuple of the text -/
def dvD : He.Dv → Option D
  | .non => some .non
  | .bl b => some (.bl b)
  | .int i => some (.int i)
  | .str x => some (.str x)
  | _ => none
theorem dvD_rp {K : PySem.W.Frag} {I : Hp} {v : He.Dv} {d : D} (h : dvD v = some d) : Rp K I d (v.v K) := by
  cases v <;> first | (cases h; rfl) | cases h
def dvDs : List He.Dv → Option (List D)
  | [] => some []
  | v :: r => match dvD v, dvDs r with
    | some d, some l => some (d :: l)
    | _, _ => none
theorem dvDs_rp {K : PySem.W.Frag} {I : Hp} : ∀ {vs : List He.Dv} {l : List D}, dvDs vs = some l → Rps K I l (vs.map (He.Dv.v K))
  | [], l, h => by cases h; exact Rps.nil
  | v :: r, l, h => by
    unfold dvDs at h
    split at h
    · rename_i d m e1 e2
      cases h
      exact Rps.cons (dvD_rp e1) (dvDs_rp e2)
    · cases h
/-- a tuple of the text -/
theorem we_globT {x : Str} {a : Addr} {vs : List He.Dv} {l : List D} {pos : Pos} (hm : mg x = some (.ref a) ∧ ∀ H, SqT K H a (vs.map (He.Dv.v K))) (hl : dvDs vs = some l) (hK : Y.X.K = K) (hM : Y.X.mg = mg) (hg : Gl Y.X x) (hdb : (x == ("__debug__" : Str)) = false) (q : Q (.im (.tup l)) c) : WE Y ρ c (.Name x pos) Q :=
  we_globF (K := K) (d := .tup l) hm.1 ⟨.ref a, rfl, fun I => ⟨a, _, rfl, hm.2 I, dvDs_rp hl⟩⟩ hK hM hg hdb q
theorem ws_raise0F {n0 : Nat} {Z : EndsW} {x : Str} {C : Addr} {p pp pos : Pos} (T : ExcC K mg x C) (hK : Y.X.K = K) (hM : Y.X.mg = mg) (hcm : Y.X.calm = true) (hg : Gl Y.X x) (hdb : (x == ("__debug__" : Str)) = false) (q : Y.Qx ⟨C, [], []⟩ ρ c) : WS Y n0 ρ c (.Raise (some (.Call (.Name x p) [] [] pp)) none pos) Z := by
  subst hK; subst hM
  exact ws_raise0 hcm T hg q hdb
end
end WL
/-! Names at a look, ways of a test, what loops and comprehensions ask. -/
namespace WL
open PySem PySem.Spec PyProof.Rows L2
/-- a name of a def, looked at once -/
def nmB (N : List Str) (sc : Scope) (x : Str) (i : Nat) : Bool := decide (N.idxOf? x = some i) && (decide (sc.names.lookup x = some .local) || decide (sc.names.lookup x = some .cell) || decide (sc.names.lookup x = some .free)) && !(x == ("__debug__" : Str)) && !(x == ("__classdict__" : Str))
theorem nmB_ok {N : List Str} {sc : Scope} {x : Str} {i : Nat} (h : nmB N sc x i = true) : N.idxOf? x = some i ∧ Vis sc x ∧ (x == ("__debug__" : Str)) = false ∧ (x == ("__classdict__" : Str)) = false := by
  unfold nmB at h
  simp only [Bool.and_eq_true, Bool.or_eq_true, decide_eq_true_eq, Bool.not_eq_true'] at h
  obtain ⟨⟨⟨h1, h2⟩, h3⟩, h4⟩ := h
  exact ⟨h1, h2.elim (fun h => h.elim .inl fun h => .inr (.inl h)) fun h => .inr (.inr h), h3, h4⟩
section
variable {Y : Cy} {ρ : Ρ} {c : List Cell} {Q : KQ} {n0 : Nat} {Z : EndsW}
theorem we_nm {x : Str} {i : Nat} {w : W} {pos : Pos} (h : nmB Y.X.N Y.X.env.scope x i = true) (hr : ρ[i]? = some (some w)) (q : Q w c) : WE Y ρ c (.Name x pos) Q :=
  we_name (nmB_ok h).1 hr q (nmB_ok h).2.1 (nmB_ok h).2.2.1 (nmB_ok h).2.2.2
/-- .. that is set -/
def stB (N : List Str) (sc : Scope) (x : Str) (i : Nat) : Bool := decide (N.idxOf? x = some i) && (decide (sc.names.lookup x = some .local) || decide (sc.names.lookup x = some .cell))
theorem stB_ok {N : List Str} {sc : Scope} {x : Str} {i : Nat} (h : stB N sc x i = true) : N.idxOf? x = some i ∧ Loc sc x := by
  unfold stB at h
  simp only [Bool.and_eq_true, Bool.or_eq_true, decide_eq_true_eq] at h
  exact ⟨h.1, h.2⟩
theorem ws_st {i : Nat} {x : Str} {e : Expr} {pos' pos : Pos} (hs : stB Y.X.N Y.X.env.scope x i = true) (hN : Y.X.N.Nodup) (hf : Y.X.fn x = true) (hsw : swapsWith e (some (.Name x pos')) pos.line Y.X.env = pure false) (h : WE Y ρ c e fun w c' => Z.nx (ρ.set i (some w)) c') : WS Y n0 ρ c (.Assign [.Name x pos'] e pos) Z :=
  ws_set hN (stB_ok hs).1 h (stB_ok hs).2 hsw (.inl hf)
theorem ws_ag {i : Nat} {x : Str} {e : Expr} {op : Operator} {pos' pos : Pos} {w0 : W} (hs : stB Y.X.N Y.X.env.scope x i = true) (hN : Y.X.N.Nodup) (hf : Y.X.fn x = true) (hr : ρ[i]? = some (some w0)) (h : WE Y ρ c e fun w c' => WO Y (inplaceOp op) w0 w c' fun w2 c2 => Z.nx (ρ.set i (some w2)) c2) : WS Y n0 ρ c (.AugAssign (.Name x pos') op e pos) Z :=
  ws_aug hN (stB_ok hs).1 hr h (stB_ok hs).2 (.inl hf)
end
end WL
namespace WL
theorem iteP {c A B : Prop} [Decidable c] (h : c) (a : A) : if c then A else B := by rw [if_pos h]; exact a
theorem iteN {c A B : Prop} [Decidable c] (h : ¬ c) (b : B) : if c then A else B := by rw [if_neg h]; exact b
end WL
namespace WL
theorem atI_0 {α : Type} {x : α} {r : List α} : L2.atI (x :: r) 0 = some x := by
  have h : (0 : Int) < (r.length : Int) + 1 := by omega
  simp [L2.atI, L2.ixN, h]
theorem atI_1 {α : Type} {x y : α} {r : List α} : L2.atI (x :: y :: r) 1 = some y := by
  have h : (1 : Int) < (r.length : Int) + 1 + 1 := by omega
  simp [L2.atI, L2.ixN, h]
end WL
namespace WL
theorem iteDP {p A B : Prop} [Decidable p] (h : p) (a : A) : if decide p = true then A else B := iteP (decide_eq_true h) a
theorem iteDN {p A B : Prop} [Decidable p] (h : ¬ p) (b : B) : if decide p = true then A else B := iteN (fun z => h (of_decide_eq_true z)) b
theorem iteNP {p A B : Prop} [Decidable p] (h : ¬ p) (a : A) : if (!decide p) = true then A else B := iteP (by rw [decide_eq_false h]; rfl) a
theorem iteNN {p A B : Prop} [Decidable p] (h : p) (b : B) : if (!decide p) = true then A else B := iteN (by rw [decide_eq_true h]; decide) b
theorem q_bl {Q : KQ} {b b' : Bool} {c : List Cell} (h : Q (.im (.bl b)) c) (e : b = b') : Q (.im (.bl b')) c := e ▸ h
theorem q_im {Q : KQ} {b b' : D} {c : List Cell} (h : Q (.im b) c) (e : b = b') : Q (.im b') c := e ▸ h
end WL
namespace WL
open PySem PySem.Spec PyProof.Rows L2
section
variable {Y : Cy} {ρ : Ρ} {c : List Cell} {n0 : Nat} {Z : EndsW}
/-- what a loop asks -/
def ForAsk (Y : Cy) (ρ : Ρ) (Z : EndsW) (t : Tgt) (body : List Stmt) (ds : List D) (c1 : List Cell) : Prop :=
  ∃ P : Nat → Ρ → List Cell → Prop, P 0 ρ c1 ∧ (∀ i d ρ' c', ds[i]? = some d → P i ρ' c' → t.fits d ∧ WSs Y c1.length (t.bind ρ' d) c' body { nx := P (i + 1), rt := Z.rt, bk := Z.nx, ct := P (i + 1) }) ∧ ∀ ρ' c', P ds.length ρ' c' → Z.nx ρ' c'
theorem ws_forF {tg iter : Expr} {body : List Stmt} {pos : Pos} (t : Tgt) (hcm : Y.X.calm = true) (hg : PG Y.X tg (t.g Y.X.K)) (hs : ∀ x, foldedSetIterable iter Y.X.env x = pure x)
    (h : WI Y ρ c tg iter (ForAsk Y ρ Z t body)) : WS Y n0 ρ c (.For tg iter body [] pos) Z := ws_for t hcm hg h hs
theorem forask {t : Tgt} {body : List Stmt} {ds : List D} (P : Nat → Ρ → List Cell → Prop) (p0 : P 0 ρ c)
    (step : ∀ i d ρ' c', ds[i]? = some d → P i ρ' c' → t.fits d ∧ WSs Y c.length (t.bind ρ' d) c' body { nx := P (i + 1), rt := Z.rt, bk := Z.nx, ct := P (i + 1) }) (fin : ∀ ρ' c', P ds.length ρ' c' → Z.nx ρ' c') : ForAsk Y ρ Z t body ds c := ⟨P, p0, step, fin⟩
variable {scope : Scope} {vs : List Nat} {t : Tgt} {elt : Expr} {QL : List D → List Cell → Prop} {ds : List D}
theorem take_succ_get {α : Type} {l : List α} {i : Nat} {d : α} (h : l[i]? = some d) : l.take (i + 1) = l.take i ++ [d] := by
  rw [List.take_succ, h]; rfl
/-- each item tells one, nothing changes -/
theorem lc_map (g : D → D) (hz : ds.length ≤ 1000000) (h : ∀ (i : Nat) d, ds[i]? = some d → t.fits d ∧ ∀ b : Blk, WE (Y.blk scope b) (t.bind (wipeW ρ vs) d) c elt fun w c3 => w = .im (g d) ∧ c3 = c) (q : QL (ds.map g) c) : LcAsk Y ρ scope vs t [] elt QL ds c := by
  refine ⟨fun i acc c' => acc = (ds.take i).map g ∧ c' = c, ⟨by simp, rfl⟩, fun i d acc c' hi ⟨ha, hc⟩ => ?_, fun acc c' ⟨ha, hc⟩ => ?_⟩
  · subst ha; subst hc
    obtain ⟨h1, h2⟩ := h i d hi
    have hl : i < ds.length := (List.getElem?_eq_some_iff.mp hi).1
    refine ⟨by rw [List.length_map, List.length_take]; omega, h1, fun b => wts_nil ?_⟩
    rw [if_pos rfl]
    intro b2
    refine (h2 b2).mono fun w c3 ⟨e1, e2⟩ => ⟨g d, e1, ?_, e2⟩
    rw [take_succ_get hi, List.map_append]; rfl
  · subst ha; subst hc
    rw [List.take_length]; exact q
/-- .. with a test -/
theorem lc_filter (p : D → Bool) (g : D → D) {cond : Expr} (hz : ds.length ≤ 1000000) (h : ∀ (i : Nat) d, ds[i]? = some d → t.fits d ∧ ∀ b : Blk, WT (Y.blk scope b) (t.bind (wipeW ρ vs) d) c cond fun k c2 => k = p d ∧ c2 = c)
    (h2 : ∀ (i : Nat) d, ds[i]? = some d → p d = true → ∀ b : Blk, WE (Y.blk scope b) (t.bind (wipeW ρ vs) d) c elt fun w c3 => w = .im (g d) ∧ c3 = c) (q : QL ((ds.filter p).map g) c) : LcAsk Y ρ scope vs t [cond] elt QL ds c := by
  refine ⟨fun i acc c' => acc = ((ds.take i).filter p).map g ∧ c' = c, ⟨by simp, rfl⟩, fun i d acc c' hi ⟨ha, hc⟩ => ?_, fun acc c' ⟨ha, hc⟩ => ?_⟩
  · subst ha; subst hc
    obtain ⟨h1, h3⟩ := h i d hi
    have hl : i < ds.length := (List.getElem?_eq_some_iff.mp hi).1
    refine ⟨?_, h1, fun b => wts_one ((h3 b).mono fun k c2 ⟨e1, e2⟩ => ?_)⟩
    · rw [List.length_map]
      refine Nat.lt_of_le_of_lt (List.length_filter_le _ _) ?_
      rw [List.length_take]; omega
    · subst e2
      cases k with
      | true =>
        rw [if_pos rfl]
        intro b2
        refine (h2 i d hi e1.symm b2).mono fun w c3 ⟨e1', e2⟩ => ⟨g d, e1', ?_, e2⟩
        rw [take_succ_get hi, List.filter_append, List.map_append]
        simp [e1.symm]
      | false =>
        rw [if_neg Bool.false_ne_true]
        show _ = _ ∧ _ = _
        rw [take_succ_get hi, List.filter_append]
        simp [e1.symm]
  · subst ha; subst hc
    rw [List.take_length]; exact q
/-- .. each with a change -/
theorem lc_inv (P : Nat → List D → List Cell → Prop) (p0 : P 0 [] c) (h : ∀ (i : Nat) d acc c', ds[i]? = some d → P i acc c' → acc.length < 1000000 ∧ t.fits d ∧ ∀ b : Blk, WE (Y.blk scope b) (t.bind (wipeW ρ vs) d) c' elt fun w c3 => ∃ e, w = .im e ∧ P (i + 1) (acc ++ [e]) c3)
    (q : ∀ acc c', P ds.length acc c' → QL acc c') : LcAsk Y ρ scope vs t [] elt QL ds c :=
  ⟨P, p0, fun i d acc c' hi hp => by
    obtain ⟨h1, h2, h3⟩ := h i d acc c' hi hp
    exact ⟨h1, h2, fun b => wts_nil (by rw [if_pos rfl]; exact fun b2 => h3 b2)⟩, q⟩
end
end WL
namespace WL
open PySem PySem.Spec PyProof.Rows L2
section
variable {Y : Cy} {ρ : Ρ} {c c2 c0 : List Cell} {Q : KQ} {w1 w2 : W}
theorem cel_0 {x : Cell} : (c0 ++ [x])[c0.length]? = some x := by simp
theorem cel_1 {x y : Cell} : (c0 ++ [x] ++ [y])[c0.length]? = some x := by simp
theorem set_0 {x z : Cell} : (c0 ++ [x]).set c0.length z = c0 ++ [z] := by simp
theorem set_1 {x y z : Cell} : (c0 ++ [x] ++ [y]).set c0.length z = c0 ++ [z] ++ [y] := by simp
theorem clo_take : ∀ {c : List Cell} {n : Nat} {d : List Cell}, n ≤ c.length → clo n (c ++ d) = clo n c := fun {c n d} h => by
  unfold clo; rw [List.take_append_of_le_length h]
theorem clo_app {d : List Cell} (h : clo c.length c = true) : clo c.length (c ++ d) = true := by rw [clo_take (Nat.le_refl _)]; exact h
theorem take_app {d : List Cell} : (c ++ d).take c.length = c := by simp
theorem wset_dicE {n : Nat} {ks : List Key} {l : List D} {d e : D} {k : Key} {QC : List Cell → Prop} (hu : Y.X.A.units + 1 < cLine) (hc : c[n]? = some (.dic ks l)) (hk : d.key = some k) (nd : ks.Nodup) (hz : ks.length < 1000000) (hs : c.set n (.dic (putD ks l k e).1 (putD ks l k e).2) = c2) (q : QC c2) : WSet Y (.im e) (.ce n) (.im d) c QC := wset_dic hu hc nd hz hk (by rw [hs]; exact q)
theorem wset_lstE {n j : Nat} {l : List D} {i : Int} {d : D} {QC : List Cell → Prop} (hc : c[n]? = some (.lst l)) (hj : ixN l.length i = some j) (hs : c.set n (.lst (l.set j d)) = c2) (q : QC c2) : WSet Y (.im d) (.ce n) (.im (.int i)) c QC := wset_lst hc hj (by rw [hs]; exact q)
theorem wm_appendE {n : Nat} {l : List D} {d : D} (hc : c[n]? = some (.lst l)) (hz : l.length < 1000000) (hs : c.set n (.lst (l ++ [d])) = c2) (q : Q (.im .non) c2) : WM Y "list.append" (.ce n) [.im d] c Q := wm_append hc hz (by rw [hs]; exact q)
end
end WL
namespace WL
theorem rtok_same {Q : KQ} {d : D} {c : List Cell} (q : Q (.im d) c) : RtOk c.length Q (.im d) c := RtOk.all q
end WL
namespace WL
open PySem PySem.Spec PyProof.Rows L2
section
variable {Y : Cy} {ρ : Ρ} {c : List Cell} {Q : KQ} {n0 : Nat} {Z : EndsW} {w : W}
theorem wc_sortedD {ks : List Str} {l : List D} (hcm : Y.X.calm = true) (s1 : Sn c w (.dic (ks.map Sum.inr) l)) (hz : ks.length < 64) (q : ∀ ys, ys.Perm ks → sortedS ys = true → Q (.im (.lst (ys.map D.str))) c) : WC Y (.builtin "sorted") [w] c Q := fun κ xs e o r Q' G => by
  obtain ⟨v, rr, rfl, rv, hn⟩ := r
  have hn : rr = [] := hn
  subst hn
  obtain ⟨a, vs, rfl, g1, g2, g3⟩ := s1.dicI e o rv
  refine CallR.w (call_sortedD hcm) ⟨a, _, ks, rfl, .inl g1, List.map_fst_zip (by omega), hz, fun ys p hp hs hn => ?_⟩
  obtain ⟨l2, o2, rp⟩ := new_lst o hn (Rps.ofStrs ys)
  exact G _ (.im (.lst (ys.map D.str))) _ l2 o2 rp (by rw [e]; exact q ys hp hs)
theorem ws_parF {i j : Nat} {x y : Str} {a b : Expr} {px py pt pos : Pos} {kt k2 : Nat} {pt2 : Pos} (hi : stB Y.X.N Y.X.env.scope x i = true) (hj : stB Y.X.N Y.X.env.scope y j = true) (hij : i ≠ j) (hcm : Y.X.calm = true) (hN : Y.X.N.Nodup)
    (hx : Y.X.env.scope.names.lookup x = some .local) (hy : Y.X.env.scope.names.lookup y = some .local)
    (hw : swappedStores [.Tuple [.Name x px, .Name y py] kt pt] (.Tuple [a, b] k2 pt2) Y.X.env = pure (some [x, y])) (hs : swapsWithSole [.Tuple [.Name x px, .Name y py] kt pt] (.Tuple [a, b] k2 pt2) pos.line Y.X.env = pure false)
    (hs2 : starEach [a, b] Y.X.env = (false, eval a Y.X.env) :: starEach [b] Y.X.env) (hs3 : starEach [b] Y.X.env = (false, eval b Y.X.env) :: starEach [] Y.X.env)
    (h : WE Y ρ c a fun w1 c1 => WE Y ρ c1 b fun w2 c2 => Z.nx ((ρ.set i (some w1)).set j (some w2)) c2) : WS Y n0 ρ c (.Assign [.Tuple [.Name x px, .Name y py] kt pt] (.Tuple [a, b] k2 pt2) pos) Z :=
  ws_par hcm hN (stB_ok hi).1 (stB_ok hj).1 hij (wa_cons (h.mono fun w1 c1 h => wa_cons (h.mono fun w2 c2 h => wa_nil ⟨w1, w2, rfl, h⟩) hs3) hs2) hx hy hw hs
theorem cdiv_of {i j : Int} (h : 0 < j) (hw : -(2 ^ 250) ≤ j ∧ j ≤ 2 ^ 250) : CDivW i j := by
  refine ⟨h, ?_⟩
  have h2 : j.natAbs ≤ 2 ^ 250 := by omega
  have := Nat.log2_lt (n := j.natAbs) (k := 251) (by omega)
  have h3 : j.natAbs.log2 < 251 := this.mpr (Nat.lt_of_le_of_lt h2 (Nat.pow_lt_pow_right (by decide) (by decide)))
  omega
end
end WL
namespace WL
open PySem PySem.Spec PyProof.Rows L2
section
variable {Y : Cy} {ρ : Ρ} {c : List Cell} {n0 : Nat} {Z : EndsW}
/-- a, b = e : a tuple taken apart -/
theorem ws_unp {tgs : List Expr} {kt : Nat} {pt pos : Pos} {e : Expr} (is : List Nat) (hg : PG Y.X (.Tuple tgs kt pt) ((Tgt.tp is).g Y.X.K)) (hs : swapsWithSole [.Tuple tgs kt pt] e pos.line Y.X.env = pure false) (hw : swappedStores [.Tuple tgs kt pt] e Y.X.env = pure none)
    (h1 : (assignEach [.Tuple tgs kt pt] Y.X.env).map (·.2) = [assign (.Tuple tgs kt pt) Y.X.env]) (h : WE Y ρ c e fun w c' => ∃ ds, w = .im (.tup ds) ∧ ds.length = is.length ∧ Z.nx (setsW ρ is ds) c') : WS Y n0 ρ c (.Assign [.Tuple tgs kt pt] e pos) Z := fun κ0 κ σ h0 l hc o r De E =>
  PS.w (ps_asg pe_w hg hs hw h1) (h.bind hc o r (E.gox l r) fun v w κ1 l1 o1 r1 g1 rw1 ⟨ds, hw2, hl, q⟩ => by
    subst hw2
    exact Tgt.go (t := .tp is) ⟨ds, rfl, hl⟩ o1 rw1 r1 (fun σ' _ r' => E.nx σ' κ1 _ (l.trans l1) o1 r' q))
end
end WL
namespace WL
open PySem PySem.Spec PyProof.Rows L2
section
variable {Y : Cy} {ρ : Ρ} {c : List Cell} {scope : Scope} {vs : List Nat} {t : Tgt} {elt : Expr} {QL : List D → List Cell → Prop} {ds : List D}
theorem lc_list (gs : List D) (hl : gs.length = ds.length) (hz : ds.length ≤ 1000000) (h : ∀ (i : Nat) d e, ds[i]? = some d → gs[i]? = some e → t.fits d ∧ ∀ b : Blk, WE (Y.blk scope b) (t.bind (wipeW ρ vs) d) c elt fun w c3 => w = .im e ∧ c3 = c) (q : QL gs c) : LcAsk Y ρ scope vs t [] elt QL ds c := by
  refine ⟨fun i acc c' => acc = gs.take i ∧ c' = c, ⟨by simp, rfl⟩, fun i d acc c' hi ⟨ha, hc⟩ => ?_, fun acc c' ⟨ha, hc⟩ => ?_⟩
  · subst ha; subst hc
    have hlt : i < ds.length := (List.getElem?_eq_some_iff.mp hi).1
    have he : gs[i]? = some gs[i] := List.getElem?_eq_getElem (by omega)
    obtain ⟨h1, h2⟩ := h i d _ hi he
    refine ⟨by rw [List.length_take]; omega, h1, fun b => wts_nil ?_⟩
    rw [if_pos rfl]
    intro b2
    refine (h2 b2).mono fun w c3 ⟨e1, e2⟩ => ⟨_, e1, ?_, e2⟩
    rw [take_succ_get he]
  · subst ha; subst hc
    rw [← hl, List.take_length]; exact q
end
end WL
namespace WL
open PySem PySem.Spec PyProof.Rows L2
def FldW (c : List Cell) (w : W) (C : Addr) (f : Str) (x : W) : Prop := ∃ ns ws, Ob c w C ns ws ∧ atF ns ws f = some x
section
variable {Y : Cy} {ρ : Ρ} {c : List Cell} {Q : KQ} {n0 : Nat} {Z : EndsW} {K : PySem.W.Frag}
theorem we_fldF {e : Expr} {f : Str} {C : Addr} {pos : Pos} (cl : Cls K C) (na : NoAttr K C f) (hK : Y.X.K = K) (hb : attributeBase e f Y.X.env (eval e Y.X.env) = eval e Y.X.env) (h : WE Y ρ c e fun w c1 => ∃ x, FldW c1 w C f x ∧ Q x c1) : WE Y ρ c (.Attribute e f pos) Q := fun κ σ hc o r g Q' G => by
  subst hK
  refine PE.w (pe_fld pe_w hb) (h.bind hc o r g fun v w κ1 l1 o1 r1 g1 rw1 ⟨x, ⟨ns, ws, hob, hx⟩, q⟩ => ?_)
  obtain ⟨a, dx, vs, rfl, h1, h2, h3⟩ := hob.at_ rfl o1 rw1
  obtain ⟨u, h4, h5⟩ := atF_v h2 h3 hx
  exact ⟨a, C, dx, _, u, rfl, h1, cl, na, h4, G u x κ1 l1 o1 h5 q⟩
end
end WL
namespace WL
open PySem PySem.Spec PyProof.Rows L2
section
variable {Y : Cy} {ρ : Ρ} {c : List Cell} {n0 : Nat} {Z : EndsW} {K : PySem.W.Frag}
/-- an object's field, set -/
def FldS (c : List Cell) (wo : W) (C : Addr) (f : Str) (wv : W) (q : List Cell → Prop) : Prop := ∃ n ns ws, wo = .ce n ∧ c[n]? = some (.ins C ns ws) ∧ ns.length < 1000 ∧ q (c.set n (.ins C (putW ns ws f wv).1 (putW ns ws f wv).2))
theorem ws_fldF {o e : Expr} {f : Str} {pos' pos : Pos} {C : Addr} (cl : Cls K C) (na : NoAttr K C f) (hK : Y.X.K = K) (hs : swapsWith e (some (.Attribute o f pos')) pos.line Y.X.env = pure false)
    (h : WE Y ρ c e fun wv c1 => WE Y ρ c1 o fun wo c2 => FldS c2 wo C f wv fun c3 => Z.nx ρ c3) : WS Y n0 ρ c (.Assign [.Attribute o f pos'] e pos) Z := by
  subst hK
  exact ws_fld cl na h hs
end
end WL
/-! enumerate over a tuple. -/
namespace PySem
open Sem (wp)
open AutoSeq1 (wpAny_loadPart')
theorem enumT_new (ta : Addr) (its : Array Value) (hn : Nat) (od : Option Addr) (osl : Array (Option Value)) :
    Meets (Builtin.«enumerate.__new__» ⟨[.type "enumerate", .ref ta], []⟩) (fun _ R s => s.heap.get? ta = some { cls := .type "tuple", dict := od, data := .seq its hn, slots := osl } ∧
      R (.ok (.ret (.ref (s.heap.push { cls := .type "tuple_iterator", data := .fields #[.ref ta, .int 0 0] }).objs.size)))
        { s with heap := (s.heap.push { cls := .type "tuple_iterator", data := .fields #[.ref ta, .int 0 0] }).push { cls := .type "enumerate", data := .fields #[.none, .bool false, .ref s.heap.objs.size, rawInt 0, .none, .none] } }) :=
  .of_wp fun pr wd Ar Rr st hh => by
    obtain ⟨hp, g, d, tk, os⟩ := st; obtain ⟨hl, hh⟩ := hh
    have hsub := sub_enumerate
    have hT : Heap.IsTuple (Shared.heap ⟨hp, g, d, tk, os⟩) ta its := ⟨_, hl, rfl, hn, rfl⟩
    wp_walk using wpAny_loadPart' hl
    refine wpAny_stack_any fun sk => wpAny_pure ?_
    split
    · rename_i cc _ _ _ _ _
      cases (cc == Value.type "enumerate")
      · wp_walk using wpAny_loadPart' hl, wpAny_pyIter_tuple hT
        exact ⟨_, rfl, hh⟩
      · wp_walk using wpAny_loadPart' hl, wpAny_pyIter_tuple hT
        exact ⟨_, rfl, hh⟩
    · wp_walk using wpAny_loadPart' hl, wpAny_pyIter_tuple hT
      exact ⟨_, rfl, hh⟩
theorem enumT_call {prog : Program} {w : World} {A : Around} {E : Value → Shared → Prop} {s : Shared} {ta : Addr} {its : Array Value} {Q : Value → Shared → Prop} (hL : s.heap.IsTuple ta its)
    (h : ∀ h1, IsEnum h1 (s.heap.objs.size + 1) s.heap.objs.size 0 .none → h1.IsTupleIter s.heap.objs.size ta 0 →
      (∀ b o, s.heap.get? b = some o → h1.get? b = some o) → Q (.ref (s.heap.objs.size + 1)) { s with heap := h1 }) :
    wpAny (model prog w) A (call (.type "enumerate") [.ref ta]) Q E s := by
  obtain ⟨⟨oc, od, dt, osl⟩, hl, hc, n, hd⟩ := hL
  have hc : oc = .type "tuple" := hc
  have hd : dt = .seq its n := hd
  subst hc; subst hd
  refine callType_new F.called_enumerate (by decide) (F.typeCall_enumerate_1 _) (F.newCall_enumerate_1 _) (fun ob => F.args_object_init_2 ob _) F.entry_enumerate_new
    (enumT_new ta its n od osl) ⟨hl, ?_⟩
  have hz : (s.heap.push { cls := .type "tuple_iterator", data := .fields #[.ref ta, .int 0 0] }).objs.size = s.heap.objs.size + 1 := Heap.size_push ..
  show _ ∧ _
  rw [hz]
  have he : IsEnum ((s.heap.push { cls := .type "tuple_iterator", data := .fields #[.ref ta, .int 0 0] }).push
      { cls := .type "enumerate", data := .fields #[.none, .bool false, .ref s.heap.objs.size, rawInt 0, .none, .none] }) (s.heap.objs.size + 1) s.heap.objs.size 0 .none := by
    have q := Heap.get?_push_size (s.heap.push { cls := .type "tuple_iterator", data := .fields #[.ref ta, .int 0 0] })
      (o := { cls := .type "enumerate", data := .fields #[.none, .bool false, .ref s.heap.objs.size, rawInt 0, .none, .none] }) rfl
    rw [hz] at q; exact q
  exact ⟨⟨_, he, rfl⟩, h _ he ⟨_, Heap.get?_push_of_some _ (Heap.get?_push_size _ rfl), rfl, rfl⟩ fun b o x => Heap.get?_push_of_some _ (Heap.get?_push_of_some _ x)⟩
theorem enumT_end {prog : Program} {w : World} {A : Around} {E : Value → Shared → Prop} {s : Shared} {e it ta : Addr} {i : Nat} {its : Array Value} {od : Value} {Q : Option Value → Shared → Prop} (hh : A.handled = none)
    (he : IsEnum s.heap e it i od) (hit : s.heap.IsTupleIter it ta i) (ht : s.heap.IsTuple ta its) (hx : its[i]? = none)
    (hQ : ∀ h1, Heap.ExtBut it s.heap h1 → Q none { s with heap := h1 }) : wpAny (model prog w) A (pyNext (.ref e)) Q E s := by
  have ty : s.TypeIs (.ref e) "enumerate" := ⟨_, he, rfl⟩
  unfold pyNext
  refine wpAny_bind (wpAny_attempt (wpAny_callSpecial?_slot (name := Str.ofString "__next__") ty F.slot_enumerate_next
    (wpAny_call_entry F.slot_enumerate_next ty F.entry_enumerate_next ?hb (F.args_enumerate_next_1 _))))
  show wpAny _ _ (field (.ref e) 2 >>= _) _ _ _
  refine wpAny_bind (wpAny_field he rfl (x := .ref it) rfl ?_)
  refine wpAny_bind (wpAny_nextOf_tuple_end (A := A.in1) hh hit ht hx fun h1 x hex hxs => ?_)
  obtain ⟨o, ho, hc⟩ := hxs
  exact wpAny_bind (wpAny_isInstance (T := "StopIteration") (b := true) ⟨o, ho, hc⟩ isSubtype_stop (wpAny_pure (hQ _ hex)))
end PySem
namespace WL
open PySem PySem.Spec PyProof.Rows L2
/-- the tuple at a, each item in a new pair -/
def IteT (K : PySem.W.Frag) (a : Addr) : It :=
  ⟨fun i H => ∃ (xs : List V) (x : V), SqT K H a xs ∧ xs[i]? = some x, fun i H v H' => ∃ T x, v = .ref T ∧ H T = none ∧ H' = upd H T (.tup [.int (i : Nat), x]) ∧ ∀ xs, SqT K H a xs → xs[i]? = some x, fun i H => ∃ xs : List V, SqT K H a xs ∧ xs.length ≤ i⟩
theorem turn_enumT {P : Program} {w : World} {K : PySem.W.Frag} {elts : List Expr} {kk : Nat} {tpos : Pos} (a e it : Addr) :
    Turn P w K (.Tuple elts kk tpos) (IteT K a) [e, it] e (fun i h => (∃ old, IsEnum h e it ((i : Nat) : Int) old) ∧ h.IsTupleIter it a i ∧ e ≠ it ∧ a ≠ it ∧ a ≠ e) where
  mem := by simp
  obj := fun i h st b hb => by
    obtain ⟨⟨od, he⟩, ⟨o, ho, hc, hd⟩, _⟩ := st
    have e1 : b = e ∨ b = it := by simpa using hb
    rcases e1 with rfl | rfl
    · exact ⟨_, he, fun v q => nomatch q⟩
    · exact ⟨o, ho, fun v q => by rw [hd] at q; cases q⟩
  keep := fun i h h' st k => let ⟨⟨od, he⟩, hi, hne⟩ := st; ⟨⟨od, k e (by simp) _ he⟩, hi.at fun o q => k it (by simp) o q, hne⟩
  item := by
    intro X hP hw hK hc i pins s σ H E I hf st hg
    subst hP hw hK
    obtain ⟨⟨od, he⟩, hit, hne, hai, hae⟩ := st
    obtain ⟨xs, x, hq, hx⟩ := hg
    obtain ⟨its, rv, p, hz⟩ := I.tuple hq
    obtain ⟨u, hu, ru⟩ := rv.get hx
    have hel : e < s.heap.objs.size := Heap.lt_size he
    have hil : it < s.heap.objs.size := by obtain ⟨_, q, _⟩ := hit; exact Heap.lt_size q
    have hh : X.A.in1.handled = none := I.ok.hd hc
    have hlen : i < its.toArray.size := by
      have q : i < xs.length := (List.getElem?_eq_some_iff.mp hx).1
      rw [List.size_toArray, ← rv.length]; exact q
    refine wpAny_pyNext_enum_itemD (Draws.tuple (prog := X.prog) (w := X.w) (A := X.A.in1) hh it a hai its.toArray) he ⟨hit, p⟩ hlen hne (by simp [hne, Ne.symm hae]) fun y h1 tk hP ho hit1 hT hsz hk => ?_
    have hy : y = u := by
      have q : its.toArray[i]? = some y := hP
      have q2 : its.toArray[i]? = some u := by simpa using hu
      rw [q2] at q; cases q; rfl
    subst hy
    refine ⟨_, rfl, wpAny_letOwnedTupleGo_enum (s := { s with heap := h1, toks := tk + 1 }) ho fun h2 he2 sb => ?_⟩
    have hT2 : h2.get? s.heap.objs.size = some { cls := .type "tuple", data := .seq #[.int i tk, y] } := (sb.2 _ (Nat.ne_of_gt hel)).trans hT
    have nw : ObjOk X.prog X.w (upd H s.heap.objs.size (.tup [.int (i : Nat), x])) h2 s.heap.objs.size (.tup [.int (i : Nat), x]) :=
      ⟨by show 2 ≤ sizeLine; decide, [.int i tk, y], .cons ⟨_, rfl⟩ (.cons ru .nil), ⟨_, hT2, rfl, _, rfl⟩⟩
    have I1 : Inv X pins σ (upd H s.heap.objs.size (.tup [.int (i : Nat), x])) { s with heap := h2, toks := tk + 1 } :=
      I.turnedNew (ch := [e, it]) (fun b ob hb q => (sb.2 b (fun z => hb (by simp [z]))).trans (hk b ob (fun z => hb (by simp [z])) (fun z => hb (by simp [z])) q)) hf (Nat.le_refl _) nw
    refine ⟨.ref s.heap.objs.size, _, I1, rfl, ⟨_, x, rfl, I.hok.fresh (Nat.le_refl _), rfl, fun ys hy => by rw [I.tuple_inj hy hq]; exact hx⟩, ⟨⟨y, ?_⟩, hit1.1.at fun o q => (sb.2 it (Ne.symm hne)).trans q, hne, hai, hae⟩, fun b hb => ?_⟩
    · rw [show ((i + 1 : Nat) : Int) = (i : Int) + 1 by omega]; exact he2
    · have hb1 : b < s.heap.objs.size := by
        have e1 : b = e ∨ b = it := by simpa using hb
        rcases e1 with rfl | rfl
        · exact hel
        · exact hil
      rw [upd_ne (Nat.ne_of_lt hb1)]
      exact (hf b hb).1
  done := by
    intro X hP hw hK hc i pins s σ H E I hf st hg
    subst hP hw hK
    obtain ⟨⟨od, he⟩, hit, hne, hai, hae⟩ := st
    obtain ⟨xs, hq, hx⟩ := hg
    obtain ⟨its, rv, p, hz⟩ := I.tuple hq
    obtain ⟨f0, f1, f2, f3, f4, f5⟩ := hf it (by simp)
    have hl := rv.length
    exact enumT_end (I.ok.hd hc) he hit p (by simp; omega) fun h1 eb => ⟨rfl, I.turned (t' := s.toks) (fun b o hb q => eb b o hb q) f0 f1 f3 f4 f5⟩
  self := fun A i s Q E st h => let ⟨⟨_, he⟩, _⟩ := st; wpAny_pyIter_enum he h
def iEnumT (K : PySem.W.Frag) (ta : TA) : TI := fun σ H R => ta σ H fun vs H1 => ∃ a xs, vs = [.ref a] ∧ SqT K H1 a xs ∧ R (IteT K a) H1
theorem pi_enumT {X : Cx} {e : Expr} {ta : TA} {p pos tpos : Pos} {elts : List Expr} {kk : Nat} (hg : Gl X "enumerate") (hm : X.mg "enumerate" = none) (ha : PA X [e] ta) (hs : starEach [e] X.env = [(false, eval e X.env)] := by rfl) :
    PI X (.Tuple elts kk tpos) (.Call (.Name "enumerate" p) [e] [] pos) (iEnumT X.K ta) := by
  refine ⟨fun pins s σ H R I hR => ?_⟩
  refine Call_ (ld_blt I hg hm boot_enumerate (PyProof.Rows.callWith_type1 (thn (ha.run pos pins s σ H _ I hR) fun us s1 ⟨vs, H1, I1, r1, q1⟩ => ?_) hs rfl))
  obtain ⟨a, xs, ex, hq, q⟩ := q1
  subst ex
  cases r1 with
  | cons r rr =>
    cases rr
    cases r
    obtain ⟨its, rv, p1, hz⟩ := I1.tuple hq
    have hal : a < s1.heap.objs.size := by
      obtain ⟨o, ho, _⟩ := p1
      exact Heap.lt_size ho
    refine enumT_call p1 fun h1 he hit hk => wpAny_pyIter_enum he ?_
    have I2 : Inv X pins σ H1 { s1 with heap := h1 } := I1.kept (t' := s1.toks) hk
    refine ⟨s1.heap.objs.size + 1, [s1.heap.objs.size + 1, s1.heap.objs.size], _, _, H1, rfl, I2, turn_enumT a (s1.heap.objs.size + 1) s1.heap.objs.size, ⟨⟨.none, he⟩, hit, Nat.succ_ne_self _, Nat.ne_of_lt hal, Nat.ne_of_lt (Nat.lt_succ_of_lt hal)⟩, fun b hb => ?_, q⟩
    have hle : s1.heap.objs.size ≤ b := by
      have e1 : b = s1.heap.objs.size + 1 ∨ b = s1.heap.objs.size := by simpa using hb
      exact e1.elim (fun z => z ▸ Nat.le_succ _) (fun z => z ▸ Nat.le_refl _)
    exact I1.fpOk hle (I1.hok.fresh hle)
/-- the pairs of enumerate -/
def enumD (l : List D) : List D := l.zipIdx.map fun x => .tup [.int (x.2 : Nat), x.1]
theorem enumD_len (l : List D) : (enumD l).length = l.length := by unfold enumD; simp
theorem enumD_get {l : List D} {i : Nat} {d : D} (h : (enumD l)[i]? = some d) : ∃ e, l[i]? = some e ∧ d = .tup [.int (i : Nat), e] := by
  unfold enumD at h
  rw [List.getElem?_map, List.getElem?_zipIdx] at h
  cases q : l[i]? with
  | none => rw [q] at h; simp at h
  | some e => rw [q] at h; simp at h; exact ⟨e, rfl, h.symm⟩
theorem itok_enumT {K : PySem.W.Frag} {κ1 : Wd} {a : Addr} {vs : List V} {ds : List D} (h : SqT K κ1.I a vs) (r : Rps K κ1.I ds vs) : ItOk K (IteT K a) (enumD ds) κ1 := by
  have hl := r.len
  have sq : ∀ κ' : Wd, Ex κ1.I κ'.I → κ'.Ok K → SqT K κ'.H a vs := fun κ' l o => ex_t (l.trans o.ex) h
  refine ⟨fun κ' l o i hi => ?_, fun κ' l o => ?_, fun κ' l o i d x H' hd y => ?_⟩
  · rw [enumD_len, ← hl] at hi
    exact ⟨vs, vs[i], sq κ' l o, List.getElem?_eq_getElem hi⟩
  · exact ⟨vs, sq κ' l o, by rw [enumD_len]; omega⟩
  · obtain ⟨T, v, rfl, hT, rfl, hv⟩ := y
    obtain ⟨e, he, rfl⟩ := enumD_get hd
    obtain ⟨u, g1, g2⟩ := r.get he
    have q := hv vs (sq κ' l o)
    rw [g1] at q; cases q
    have rps : Rps K κ'.I [.int (i : Nat), e] [.int (i : Nat), v] := Rps.cons rfl (Rps.cons (Rp.ex l e g2) Rps.nil)
    obtain ⟨l2, o2, rp⟩ := new_tup o hT rps
    exact ⟨_, l2, o2, rfl, rfl, rp⟩
section
variable {Y : Cy} {ρ : Ρ} {c : List Cell}
theorem wi_enumT {e : Expr} {elts : List Expr} {kk : Nat} {tpos p pos : Pos} {Q : List D → List Cell → Prop} (hm : Y.X.mg "enumerate" = none) (hg : Gl Y.X "enumerate") (hs : starEach [e] Y.X.env = [(false, eval e Y.X.env)])
    (h : WE Y ρ c e fun w c1 => ∃ ds, w = .im (.tup ds) ∧ Q (enumD ds) c1) : WI Y ρ c (.Tuple elts kk tpos) (.Call (.Name "enumerate" p) [e] [] pos) Q := fun κ σ hc o r g Q' G => by
  have hA : WA Y ρ c [e] fun ws c1 => ∃ ds, ws = [.im (.tup ds)] ∧ Q (enumD ds) c1 := wa_cons (h.mono fun w c1 ⟨ds, e1, q⟩ => wa_nil ⟨ds, by rw [e1], q⟩) (by rw [hs]; rfl)
  refine PI.w (pi_enumT hg hm pa_w hs) (hA.bind hc o r g fun vs ws κ1 l1 o1 r1 g1 rw1 ⟨ds, e1, q⟩ => ?_)
  subst e1
  obtain ⟨v, rr, rfl, ⟨a, xs, rfl, g2, g3⟩, hn⟩ := rw1
  have hn : rr = [] := hn
  subst hn
  exact ⟨a, xs, rfl, ex_t o1.ex g2, G _ _ κ1 l1 o1 (itok_enumT g2 g3) q⟩
end
end WL
/-! Methods of lists, cells that are set again. -/
namespace WL
open PySem PySem.Spec PyProof.Rows L2
def LstW (c : List Cell) (w : W) : Prop := ∃ l, Sn c w (.lst l)
theorem cel_s {c : List Cell} {n : Nat} {x y : Cell} (h : c[n]? = some y) : (c.set n x)[n]? = some x := by
  rw [List.getElem?_set_self (List.getElem?_eq_some_iff.mp h).1]
theorem set_self {c : List Cell} {n : Nat} {x : Cell} (h : c[n]? = some x) : c.set n x = c := by
  obtain ⟨h1, h2⟩ := List.getElem?_eq_some_iff.mp h
  rw [← h2, List.set_getElem_self]
section
variable {Y : Cy} {ρ : Ρ} {c c2 : List Cell} {Q : KQ}
theorem we_lm {o e : Expr} {es : List Expr} {name : Str} {apos cpos : Pos} {id : String} (slot : Slot "list" name id) (hty : typeOf (.builtin id) = pure (.type "method_descriptor"))
    (hbase : attributeBase o name Y.X.env (eval o Y.X.env) = eval o Y.X.env)
    (hfew : ((backTo cpos (starEach (e :: es) Y.X.env)).all (fun x => !x.1) && (backToKw cpos (keywordEach [] Y.X.env)).all (fun x => x.1.isSome)
      && decide ((e :: es).length + ([] : List Keyword).length + (if ([] : List Keyword).isEmpty then 0 else 1) < 30)) = true)
    (hline : (apos.endLine == cpos.line) = true) (hs : starEach (e :: es) Y.X.env = (false, eval e Y.X.env) :: starEach es Y.X.env) (hplain : (backTo cpos (starEach es Y.X.env)).any (·.1) = false)
    (h : WE Y ρ c o fun w c1 => LstW c1 w ∧ WA Y ρ c1 (e :: es) fun ws c2 => WM Y id w ws c2 Q) :
    WE Y ρ c (.Call (.Attribute o name apos) (e :: es) [] cpos) Q :=
  we_bm F.plainAttrs_list slot hty (h.mono fun w c1 ⟨⟨l, hl⟩, q⟩ => ⟨_, hl, .inl ⟨rfl, l, rfl⟩, q⟩) hbase hfew hline hs hplain
theorem we_lm0 {o : Expr} {name : Str} {apos cpos : Pos} {id : String} (slot : Slot "list" name id) (hty : typeOf (.builtin id) = pure (.type "method_descriptor"))
    (hbase : attributeBase o name Y.X.env (eval o Y.X.env) = eval o Y.X.env) (hline : (apos.endLine == cpos.line) = true)
    (h : WE Y ρ c o fun w c1 => LstW c1 w ∧ WM Y id w [] c1 Q) :
    WE Y ρ c (.Call (.Attribute o name apos) [] [] cpos) Q :=
  we_bm0 F.plainAttrs_list slot hty (h.mono fun w c1 ⟨⟨l, hl⟩, q⟩ => ⟨_, hl, .inl ⟨rfl, l, rfl⟩, q⟩) hbase hline
theorem wm_popAtE {n k : Nat} {l : List D} {i : Int} {d : D} (hc : c[n]? = some (.lst l)) (hi : -(2 ^ 63) ≤ i ∧ i < 2 ^ 63) (hk : seqIndex? i l.length = some k) (hd : l[k]? = some d) (hs : c.set n (.lst (l.eraseIdx k)) = c2) (q : Q (.im d) c2) : WM Y "list.pop" (.ce n) [.im (.int i)] c Q := wm_popAt hc hi hk hd (by rw [hs]; exact q)
theorem wm_popE {n : Nat} {l : List D} {d : D} (hc : c[n]? = some (.lst l)) (hd : l[l.length - 1]? = some d) (hs : c.set n (.lst l.dropLast) = c2) (q : Q (.im d) c2) : WM Y "list.pop" (.ce n) [] c Q := wm_pop hc hd (by rw [hs]; exact q)
end
end WL
namespace WL
open PySem PySem.Spec PyProof.Rows L2
theorem Rps.rg {K : PySem.W.Frag} {I : Hp} (a b : Int) : Rps K I (rangeD a (b - a).toNat) (rgV a b) := by
  have go : ∀ l : List Nat, Rps K I (l.map fun i => D.int (a + (i : Nat))) (l.map fun i => V.int (a + (i : Nat))) := by
    intro l
    induction l with
    | nil => exact Rps.nil
    | cons x r ih => exact Rps.cons rfl ih
  exact go _
section
variable {Y : Cy} {ρ : Ρ} {c : List Cell} {Q : KQ}
/-- list(range(a)) -/
theorem we_listRg1 {a : Expr} {p p1 pos pos1 : Pos} (hml : Y.X.mg "list" = none) (hmr : Y.X.mg "range" = none) (hcm : Y.X.calm = true) (hgl : Gl Y.X "list") (hgr : Gl Y.X "range")
    (na : starEach [a] Y.X.env = (false, eval a Y.X.env) :: starEach [] Y.X.env) (na2 : starEach [.Call (.Name "range" p1) [a] [] pos1] Y.X.env = (false, eval (.Call (.Name "range" p1) [a] [] pos1) Y.X.env) :: starEach [] Y.X.env)
    (h : WE Y ρ c a fun w c1 => ∃ j : Int, w = .im (.int j) ∧ (0 ≤ j ∧ j ≤ 1000000) ∧ Q (.im (.lst (rangeD 0 j.toNat))) c1) : WE Y ρ c (.Call (.Name "list" p) [.Call (.Name "range" p1) [a] [] pos1] [] pos) Q := fun κ σ hc o r g Q' G =>
  PE.w (pe_listRg hcm hgl hml (prg_1 hgr hmr pe_w na) na2) (h.bind hc o r g fun v w κ1 l1 o1 r1 g1 rw1 ⟨j, e1, hj, q⟩ => by
    subst e1
    refine ⟨j, rw1, RgOk.of_le (Int.le_refl _) (by omega) (by decide) hj.1, fun p hp => ?_⟩
    obtain ⟨l2, o2, rp⟩ := new_lst o1 hp (Rps.rg 0 j)
    rw [Int.sub_zero] at rp
    exact G _ (.im (.lst (rangeD 0 j.toNat))) _ (l1.trans l2) o2 rp q)
end
end WL
/-! A cell that is data from here on; zip. -/
namespace WL
open PySem PySem.Spec PyProof.Rows L2
section
variable {K : PySem.W.Frag} {κ : Wd}
theorem Wd.le.takeM {κ0 : Wd} (l : κ0.le κ) {m : Nat} (hm : κ0.th.length ≤ m) : κ0.le ⟨κ.I, κ.H, κ.th.take m, κ.c.take m⟩ := ⟨l.ii, fun n a h => by
  show (κ.th.take m)[n]? = some a
  have hn := (List.getElem?_eq_some_iff.mp h).1
  rw [List.getElem?_take, if_pos (by omega)]; exact l.th n a h, l.fr, l.hd, l.nw, fun a h n => l.nt a (List.mem_of_mem_take h) n⟩
theorem Wd.Ok.pastM (o : κ.Ok K) {m n : Nat} {a : Addr} {u : HO} (hn : m ≤ n) (h : κ.th[n]? = some a) (hu : κ.H a = some u) : Side ⟨κ.I, κ.H, κ.th.take m, κ.c.take m⟩ a u := by
  have hl := (List.getElem?_eq_some_iff.mp h).1
  have e : (κ.th.take m).length = m := by rw [List.length_take]; omega
  have q := o.past (κ0 := ⟨κ.I, κ.H, κ.th.take m, κ.c.take m⟩) (by show (κ.th.take m).length ≤ n; rw [e]; exact hn) h hu
  have e2 : (Wd.th ⟨κ.I, κ.H, κ.th.take m, κ.c.take m⟩).length = m := e
  rw [e2] at q
  exact q
end
def frzW (n : Nat) (d : D) : W → W
  | .ce k => if k = n then .im d else .ce k
  | .im e => .im e
def frzP (n : Nat) (d : D) (ρ : Ρ) : Ρ := ρ.map (Option.map (frzW n d))
section
variable {Y : Cy} {ρ : Ρ} {c : List Cell} {n0 : Nat} {Z : EndsW}
/-- the last cell, a list, is data from here on -/
theorem wss_frz {sts : List Stmt} {l : List D} (h0 : n0 ≤ c.length) (hcl : clo c.length c = true) (h : WSs Y n0 (frzP c.length (.lst l) ρ) c sts Z) : WSs Y n0 ρ (c ++ [.lst l]) sts Z := fun κ0 κ σ hl le hc o r De E => by
  have hlen : κ.th.length = c.length + 1 := by rw [o.len, hc]; simp
  have hat : κ.th[c.length]? = some κ.th[c.length] := List.getElem?_eq_getElem (by omega)
  obtain ⟨vs, g1, g2⟩ := o.cl c.length _ (.lst l) hat (by rw [hc]; exact cel_0)
  have s := o.pastM (Nat.le_refl c.length) hat g1
  have hc2 : κ.c.take c.length = c := by rw [hc]; exact take_app
  obtain ⟨o2, ee⟩ := (o.take (n := c.length) (by rw [hc]; exact clo_app hcl)).adopt s
  have hn := le.newer o (by rw [hl]; exact h0) hat
  have le2 := (le.takeM (m := c.length) (by rw [hl]; exact h0)).adopt s hn
  refine h κ0 _ σ hl le2 hc2 o2 ⟨by rw [r.len]; unfold frzP; simp, fun i w hi => ?_⟩ De E
  unfold frzP at hi
  rw [List.getElem?_map] at hi
  cases hq : ρ[i]? with
  | none => rw [hq] at hi; simp at hi
  | some ow =>
    rw [hq] at hi
    cases ow with
    | none => simp at hi
    | some w1 =>
      have hi : frzW c.length (.lst l) w1 = w := by simpa using hi
      obtain ⟨v, hv, rw1⟩ := r.at_ i w1 hq
      refine ⟨v, hv, ?_⟩
      cases w1 with
      | im d => subst hi; exact Rp.ex ee d rw1
      | ce k =>
        obtain ⟨a, ha, rfl⟩ := rw1
        have hi : (if k = c.length then W.im (.lst l) else W.ce k) = w := hi
        by_cases hk : k = c.length
        · rw [if_pos hk] at hi
          subst hi; subst hk
          rw [hat] at ha; cases ha
          exact ⟨_, vs, rfl, upd_same, Rps.ex ee l g2⟩
        · rw [if_neg hk] at hi
          subst hi
          have hk2 := (List.getElem?_eq_some_iff.mp ha).1
          refine ⟨a, ?_, rfl⟩
          show (κ.th.take c.length)[k]? = some a
          rw [List.getElem?_take, if_pos (by omega)]; exact ha
/-- the pairs of zip -/
def zipD (l m : List D) : List D := (l.zip m).map fun x => .tup [x.1, x.2]
theorem zipD_len (l m : List D) : (zipD l m).length = min l.length m.length := by unfold zipD; simp
theorem zipD_get {l m : List D} {i : Nat} {d : D} (h : (zipD l m)[i]? = some d) : ∃ x y, l[i]? = some x ∧ m[i]? = some y ∧ d = .tup [x, y] := by
  unfold zipD at h
  rw [List.getElem?_map] at h
  obtain ⟨p, hp, rfl⟩ := Option.map_eq_some_iff.mp h
  obtain ⟨h1, h2⟩ := List.getElem?_zip_eq_some.mp hp
  exact ⟨_, _, h1, h2, rfl⟩
theorem itok_zip {K : PySem.W.Frag} {κ1 : Wd} {a b : Addr} {vs us : List V} {l m : List D} (h : κ1.I a = some (.lst vs)) (h' : κ1.I b = some (.lst us)) (r : Rps K κ1.I l vs) (r' : Rps K κ1.I m us) : ItOk K (Itz K a b) (zipD l m) κ1 := by
  have hl := r.len
  have hl' := r'.len
  have sq : ∀ κ' : Wd, Ex κ1.I κ'.I → κ'.Ok K → SqL K κ'.H a vs ∧ SqL K κ'.H b us := fun κ' l o => ⟨SqL.of (o.ex _ _ (l _ _ h)), SqL.of (o.ex _ _ (l _ _ h'))⟩
  refine ⟨fun κ' l o i hi => ?_, fun κ' l o => ?_, fun κ' l o i d x H' hd y => ?_⟩
  · rw [zipD_len, ← hl, ← hl'] at hi
    exact ⟨vs, us, vs[i], us[i], (sq κ' l o).1, (sq κ' l o).2, List.getElem?_eq_getElem (by omega), List.getElem?_eq_getElem (by omega)⟩
  · exact ⟨vs, us, (sq κ' l o).1, (sq κ' l o).2, by rw [zipD_len]; omega⟩
  · obtain ⟨T, v, u, rfl, hT, rfl, hv, hu⟩ := y
    obtain ⟨e1, e2, he1, he2, rfl⟩ := zipD_get hd
    obtain ⟨v1, q1, q2⟩ := r.get he1
    obtain ⟨u1, q3, q4⟩ := r'.get he2
    have z1 := hv vs (sq κ' l o).1
    have z2 := hu us (sq κ' l o).2
    rw [q1] at z1; cases z1
    rw [q3] at z2; cases z2
    have rps : Rps K κ'.I [e1, e2] [v, u] := Rps.cons (Rp.ex l e1 q2) (Rps.cons (Rp.ex l e2 q4) Rps.nil)
    obtain ⟨l2, o2, rp⟩ := new_tup o hT rps
    exact ⟨_, l2, o2, rfl, rfl, rp⟩
theorem wi_zip {e e2 : Expr} {elts : List Expr} {kk : Nat} {tpos p pos : Pos} {Q : List D → List Cell → Prop} (hm : Y.X.mg "zip" = none) (hg : Gl Y.X "zip") (hs : starEach [e, e2] Y.X.env = (false, eval e Y.X.env) :: starEach [e2] Y.X.env)
    (hs2 : starEach [e2] Y.X.env = (false, eval e2 Y.X.env) :: starEach [] Y.X.env) (hpl : (backTo pos (starEach [e2] Y.X.env)).any (·.1) = false)
    (h : WE Y ρ c e fun w c1 => WE Y ρ c1 e2 fun w2 c2 => ∃ l m, w = .im (.lst l) ∧ w2 = .im (.lst m) ∧ Q (zipD l m) c2) : WI Y ρ c (.Tuple elts kk tpos) (.Call (.Name "zip" p) [e, e2] [] pos) Q := fun κ σ hc o r g Q' G => by
  have hA : WA Y ρ c [e, e2] fun ws c1 => ∃ l m, ws = [.im (.lst l), .im (.lst m)] ∧ Q (zipD l m) c1 :=
    wa_cons (h.mono fun w c1 h1 => wa_cons (h1.mono fun w2 c2 ⟨l, m, e1, e2, q⟩ => wa_nil ⟨l, m, by rw [e1, e2], q⟩) hs2) hs
  refine PI.w (RZ.pi_zipA hg hm pa_w hs hpl) (hA.bind hc o r g fun vs ws κ1 l1 o1 r1 g1 rw1 ⟨l, m, e1, q⟩ => ?_)
  subst e1
  obtain ⟨v, rr, rfl, ⟨a, xs, rfl, g2, g3⟩, ⟨v2, rr2, rfl, ⟨b, ys, rfl, g4, g5⟩, hn⟩⟩ := rw1
  have hn : rr2 = [] := hn
  subst hn
  exact ⟨a, b, xs, ys, rfl, .inl ⟨SqL.of (o1.ex _ _ g2), SqL.of (o1.ex _ _ g4), G _ _ κ1 l1 o1 (itok_zip g2 g4 g3 g5) q⟩⟩
end
end WL
namespace WL
open PySem PySem.Spec PyProof.Rows L2
/-- the slots behind: forgotten, or as before but for the cell -/
def FrzOk (n : Nat) (d : D) : Ρ → Ρ → Prop
  | [], [] => True
  | none :: r, _ :: r' => FrzOk n d r r'
  | some w :: r, o :: r' => (∃ w1, o = some w1 ∧ frzW n d w1 = w) ∧ FrzOk n d r r'
  | _, _ => False
theorem FrzOk.get {n : Nat} {d : D} : ∀ {r r' : Ρ}, FrzOk n d r r' → r.length = r'.length ∧ ∀ (i : Nat) w, r[i]? = some (some w) → (frzP n d r')[i]? = some (some w)
  | [], [], _ => ⟨rfl, fun i w h => by simp at h⟩
  | none :: r, _ :: r', h => by
    obtain ⟨h1, h2⟩ := FrzOk.get (r := r) (r' := r') h
    refine ⟨by rw [List.length_cons, List.length_cons, h1], fun i w hi => ?_⟩
    cases i with
    | zero => simp at hi
    | succ i => exact h2 i w (by simpa using hi)
  | some w0 :: r, o :: r', ⟨⟨w1, eo, e⟩, h⟩ => by
    subst eo
    obtain ⟨h1, h2⟩ := FrzOk.get (r := r) (r' := r') h
    refine ⟨by rw [List.length_cons, List.length_cons, h1], fun i w hi => ?_⟩
    cases i with
    | zero =>
      have hi : w0 = w := by simpa using hi
      subst hi
      show some (some (frzW n d w1)) = _
      rw [e]
    | succ i => exact h2 i w (by simpa using hi)
section
variable {Y : Cy} {ρ ρ2 : Ρ} {c : List Cell} {n0 : Nat} {Z : EndsW}
theorem wss_sub {sts : List Stmt} (hl : ρ2.length = ρ.length) (hs : ∀ (i : Nat) w, ρ2[i]? = some (some w) → ρ[i]? = some (some w)) (h : WSs Y n0 ρ2 c sts Z) : WSs Y n0 ρ c sts Z := fun κ0 κ σ h0 le hc o r De E =>
  h κ0 κ σ h0 le hc o ⟨by rw [r.len, hl], fun i w hi => r.at_ i w (hs i w hi)⟩ De E
theorem wss_frzS {sts : List Stmt} {l : List D} {n : Nat} (hn : n = c.length) (h0 : n0 ≤ c.length) (hcl : clo c.length c = true) (hf : FrzOk n (.lst l) ρ2 ρ) (h : WSs Y n0 ρ2 c sts Z) : WSs Y n0 ρ (c ++ [.lst l]) sts Z := by
  subst hn
  obtain ⟨h1, h2⟩ := hf.get
  exact wss_frz h0 hcl (wss_sub (by rw [h1]; unfold frzP; simp) h2 h)
end
theorem clo_lst1 {c : List Cell} {l : List D} (h : clo c.length c = true) : clo (c ++ [Cell.lst l]).length (c ++ [Cell.lst l]) = true := by
  have e : clo c.length c = c.all (Cell.below c.length) := by unfold clo; rw [List.take_length]
  unfold clo
  rw [List.take_length, List.all_append, Bool.and_eq_true]
  rw [e] at h
  refine ⟨List.all_eq_true.mpr fun k hk => ?_, rfl⟩
  have q := List.all_eq_true.mp h k hk
  cases k with
  | lst l => rfl
  | dic ks l => rfl
  | xo R => rfl
  | xw R ws =>
    have q : ws.all (W.below c.length) = true := q
    show ws.all (W.below _) = true
    refine List.all_eq_true.mpr fun w hw => ?_
    have q2 := List.all_eq_true.mp q w hw
    cases w with
    | im d => rfl
    | ce n =>
      have q2 : decide (n < c.length) = true := q2
      show decide (n < _) = true
      rw [List.length_append]
      simp only [decide_eq_true_eq] at q2 ⊢
      omega
  | ins C ns ws =>
    have q : ws.all (W.below c.length) = true := q
    show ws.all (W.below _) = true
    refine List.all_eq_true.mpr fun w hw => ?_
    have q2 := List.all_eq_true.mp q w hw
    cases w with
    | im d => rfl
    | ce n =>
      have q2 : decide (n < c.length) = true := q2
      show decide (n < _) = true
      rw [List.length_append]
      simp only [decide_eq_true_eq] at q2 ⊢
      omega
end WL
namespace WL
open PySem PySem.Spec PyProof.Rows L2
/-- [x] * int(p) -/
theorem wo_rep01 {Y : Cy} {c : List Cell} {Q : KQ} {x : D} {p : Prop} [Decidable p] (q : Q (.im (.lst (if p then [x] else []))) c) : WO Y (binaryOp .Mult) (.im (.lst [x])) (.im (.int (if decide p = true then 1 else 0))) c Q := by
  by_cases h : p
  · rw [if_pos h] at q
    rw [if_pos (decide_eq_true h)]
    exact wo_repL .im ⟨by decide, by decide⟩ (Nat.le_of_ble_eq_true rfl) q
  · rw [if_neg h] at q
    rw [if_neg (fun z => h (of_decide_eq_true z))]
    exact wo_repL .im ⟨by decide, by decide⟩ (Nat.le_of_ble_eq_true rfl) q
end WL
/-! range over ints of any size. -/
namespace WL
open PySem PySem.Spec PyProof.Rows L2
theorem turn_long {P : Program} {w : World} {K : PySem.W.Frag} {tg : Expr} (it : Addr) (lo : Int) (n : Nat) : Turn P w K tg (Itr lo n) [it] it (fun i h => IsLongIter h it (lo + (i : Nat) * 1) ((n : Int) - (i : Nat)) 1) where
  mem := by simp
  obj := fun i h st b hb => by
    have eb : b = it := by simpa using hb
    subst eb
    exact ⟨_, st, fun v z => nomatch z⟩
  keep := fun i h h1 st k => k it (by simp) _ st
  item := by
    intro X eP ew eK ec i pins s σ H E I hf st hg
    subst eP ew eK
    obtain ⟨f0, f1, f2, f3, f4, f5⟩ := hf it (by simp)
    refine (Walks.longrange (prog := X.prog) (w := X.w) (I.ok.hd ec) it lo 1 n).item i s _ _ hg st fun v h1 tk hv st1 kk => ?_
    obtain ⟨t, rfl⟩ := hv
    have I1 : Inv X pins σ H { s with heap := h1, toks := tk } := I.turned (fun b o hb q => kk b o (by simpa using hb) q) f0 f1 f3 f4 f5
    refine ⟨_, rfl, go_of (s := { s with heap := h1, toks := tk }) (n := "longrange_iterator") st1 rfl rfl (by decide) ⟨.int (lo + i), H, I1, ⟨t, ?_⟩, ⟨rfl, rfl⟩, st1, fun b hb => (hf b hb).1⟩⟩
    rw [Int.mul_one]
  done := by
    intro X eP ew eK ec i pins s σ H E I hf st hg
    subst eP ew eK
    obtain ⟨f0, f1, f2, f3, f4, f5⟩ := hf it (by simp)
    exact wpAny_pyNext_long_end (I.ok.hd ec) st (by have q : n ≤ i := hg; omega) fun h1 eb => ⟨rfl, I.turned (t' := s.toks) (fun b o hb q => eb b o hb q) f0 f1 f3 f4 f5⟩
  self := fun _ _ _ _ _ st h => wpAny_pyIter_longiter st h
theorem size_one {lo hi : Int} : Builtin.Range.rangeSize lo hi 1 = (((hi - lo).toNat : Nat) : Int) := by rw [rangeSize_one]; split <;> omega
theorem range_any {X : Cx} {tg : Expr} {pins : List (Addr × Obj)} {σ : L2.St} {H : Hp} {s : Shared} {R : It → Hp → Prop} {E : Value → Shared → Prop} {lo hi : Int} {t u v : Tok} {tk : Nat} (I : Inv X pins σ H s)
    (q : R (Itr lo (hi - lo).toNat) H) : wpAny (model X.prog X.w) X.A (pyIter (.ref s.heap.objs.size)) (PIE X pins σ tg R) E { s with heap := s.heap.push { cls := .type "range", data := .fields #[.int lo t, .int hi u, .int 1 v] }, toks := tk } := by
  have I1 : Inv X pins σ H { s with heap := s.heap.push { cls := .type "range", data := .fields #[.int lo t, .int hi u, .int 1 v] }, toks := tk } := I.kept fun b o q => Heap.get?_push_of_some _ q
  have e1 : lo + ((0 : Nat) : Int) * 1 = lo := by simp
  have e2 : (((hi - lo).toNat : Nat) : Int) - ((0 : Nat) : Int) = Builtin.Range.rangeSize lo hi 1 := by rw [size_one]; omega
  have fp : ∀ b ∈ [(s.heap.push { cls := .type "range", data := .fields #[.int lo t, .int hi u, .int 1 v] }).objs.size], FpOk X pins H b := fun b hb => by
    have eb : b = (s.heap.push { cls := .type "range", data := .fields #[.int lo t, .int hi u, .int 1 v] }).objs.size := by simpa using hb
    subst eb
    exact I1.fpOk (Nat.le_refl _) (I1.hok.fresh (Nat.le_refl _))
  cases sm : Builtin.Range.small lo hi 1 with
  | true =>
    refine wpAny_pyIter_range (IsRange.new ..) sm ?_
    refine ⟨_, _, _, _, H, rfl, I1.kept (t' := tk) fun b o q => Heap.get?_push_of_some _ q, turn_range _ lo (hi - lo).toNat, ?_, fp, q⟩
    show IsRangeIter _ _ (lo + ((0 : Nat) : Int) * 1) ((((hi - lo).toNat : Nat) : Int) - ((0 : Nat) : Int)) 1
    rw [e1, e2]
    exact Heap.get?_push_size _ rfl
  | false =>
    refine wpAny_pyIter_longrange (IsRange.new ..) sm ?_
    refine ⟨_, _, _, _, H, rfl, I1.kept (t' := tk) fun b o q => Heap.get?_push_of_some _ q, turn_long _ lo (hi - lo).toNat, ?_, fp, q⟩
    show IsLongIter _ _ (lo + ((0 : Nat) : Int) * 1) ((((hi - lo).toNat : Nat) : Int) - ((0 : Nat) : Int)) 1
    rw [e1, e2]
    exact Heap.get?_push_size _ rfl
def iRngW (ta : TA) : TI := fun σ H R => ta σ H fun vs H1 => ∃ i j : Int, vs = [.int i, .int j] ∧ R (Itr i (j - i).toNat) H1
theorem pi_rangeW {X : Cx} {tg a b : Expr} {ta : TA} {p pos : Pos} (hg : Gl X "range") (hm : X.mg "range" = none) (ha : PA X [a, b] ta) (hs : starEach [a, b] X.env = [(false, eval a X.env), (false, eval b X.env)]) (hs2 : starEach [b] X.env = [(false, eval b X.env)]) :
    PI X tg (.Call (.Name "range" p) [a, b] [] pos) (iRngW ta) := by
  refine ⟨fun pins s σ H R I hh => ?_⟩
  refine Call_ (ld_blt I hg hm boot_range (PyProof.Rows.callWith_type1 (thn (ha.run pos pins s σ H _ I hh) fun us s1 ⟨vs, H1, I1, r1, q1⟩ => ?_) (by rw [hs, hs2]) (by rw [hs2]; rfl)))
  obtain ⟨i, j, ev, q⟩ := q1
  subst ev
  cases r1 with
  | cons r rr =>
    cases rr with
    | cons r2 rr =>
      cases rr
      obtain ⟨t, rfl⟩ := r
      obtain ⟨t2, rfl⟩ := r2
      exact call_range_2 (range_any I1 q)
theorem wi_rangeW {Y : Cy} {ρ : Ρ} {c : List Cell} {tg a b : Expr} {p pos : Pos} {Q : List D → List Cell → Prop} (hg : Gl Y.X "range") (hm : Y.X.mg "range" = none)
    (hs : starEach [a, b] Y.X.env = [(false, eval a Y.X.env), (false, eval b Y.X.env)]) (hs2 : starEach [b] Y.X.env = [(false, eval b Y.X.env)])
    (h : WE Y ρ c a fun w c1 => WE Y ρ c1 b fun w2 c2 => ∃ i j : Int, w = .im (.int i) ∧ w2 = .im (.int j) ∧ Q (rangeD i (j - i).toNat) c2) : WI Y ρ c tg (.Call (.Name "range" p) [a, b] [] pos) Q := fun κ σ hc o r g Q' G => by
  have hA : WA Y ρ c [a, b] fun ws c1 => ∃ i j : Int, ws = [.im (.int i), .im (.int j)] ∧ Q (rangeD i (j - i).toNat) c1 :=
    wa_cons (h.mono fun w c1 h1 => wa_cons (h1.mono fun w2 c2 ⟨i, j, e1, e2, q⟩ => wa_nil ⟨i, j, by rw [e1, e2], q⟩) (by rw [hs2]; rfl)) (by rw [hs, hs2])
  refine PI.w (pi_rangeW hg hm pa_w hs hs2) (hA.bind hc o r g fun vs ws κ1 l1 o1 r1 g1 rw1 ⟨i, j, e1, q⟩ => ?_)
  subst e1
  obtain ⟨v, rr, rfl, hv, ⟨v2, rr2, rfl, hv2, hn⟩⟩ := rw1
  have hn : rr2 = [] := hn
  have hv : v = .int i := hv
  have hv2 : v2 = .int j := hv2
  subst hn; subst hv; subst hv2
  exact ⟨i, j, rfl, G _ _ κ1 l1 o1 (itok_range i (j - i).toNat) q⟩
end WL
/-! The end of a law by such a def. -/
namespace WL
open PySem PySem.Spec PyProof.Rows L2
theorem walk_w {l : PySem.W.OpenLaw} {n k : Nat} {q : Program} {loose : List Str} {XP : (Str → Option Value) → Heap → Prop} {YP : World → Heap → Prop} {d : DefRec} {x : Str}
    (hmost : l.most = some n) (hsz : n ≤ sizeLine) (hnd : d.params.defaults = []) (hroom : Room k callerA)
    (F : ∀ (w : World) (mg : Str → Option Value) (fa : Addr) (h : Heap), YP w h → h.Ns mainGlobals mg → mg d.name = some (.ref fa) →
      ∃ (K : PySem.W.Frag) (fd : FuncData) (sp : Sp), K.In h ∧ (∀ (s : Shared) (u : Value), BindsTo s fd ⟨[u], []⟩ [(x, u)]) ∧
        (∀ (H : Hp) (a : Addr) (ns : List Int), ns.length ≤ n → Only H → SqL K H a (ns.map V.int) → sp [.ref a] H (fun v _ => v = .bl true) fun _ _ _ => False) ∧
        ∀ base : Heap, K.In base → base.Ns mainGlobals mg → FnOk l.prog w K mg base (L2.CX l.prog w) k fa fd [x] sp) :
    PySem.W.WalkO q loose XP YP l.row.toRowW d [] (fun f vs => PySem.call f vs) := by
  refine Att.attach_call hmost hnd fun wd s0 s1 mg mb fa ob pm cdv dc a us is GG YY h1 h2 h3 hmg hob hin hle hgn => ?_
  obtain ⟨K, fd, sp, KX, hbd, hsp, hF⟩ := F wd mg fa _ YY GG.T.g hmg
  refine law_call KX GG.T.g GG.T.b GG.T.builtins GG.T.nolimit hgn hob hin (Nat.le_trans hle hsz) hroom hF hbd (fun H hO hS => hsp H a is hle hO hS) fun H e s2 z => ?_
  obtain ⟨_, _, _, _, _, _, _, _, _, _, _, _, z⟩ := z
  exact z
end WL
/-! max, min of two; parts of a slice. -/
namespace WL
open PySem PySem.Spec PyProof.Rows L2
section
variable {Y : Cy} {ρ : Ρ} {c : List Cell} {Q : KQ}
theorem wc_maxL2 {i j : Int} (hcm : Y.X.calm = true) (q : Q (.im (.int (if i < j then j else i))) c) : WC Y (.builtin "max") [.im (.lst [.int i, .int j])] c Q :=
  wc_max (ns := [i, j]) hcm .im (Nat.zero_lt_succ _) fun m h1 h2 => by
    have h3 := h2 i (by simp)
    have h4 := h2 j (by simp)
    simp only [List.mem_cons, List.not_mem_nil, or_false] at h1
    have e : m = if i < j then j else i := by split <;> omega
    rw [e]; exact q
theorem wc_minL2 {i j : Int} (hcm : Y.X.calm = true) (q : Q (.im (.int (if i < j then i else j))) c) : WC Y (.builtin "min") [.im (.lst [.int i, .int j])] c Q :=
  wc_min (ns := [i, j]) hcm .im (Nat.zero_lt_succ _) fun m h1 h2 => by
    have h3 := h2 i (by simp)
    have h4 := h2 j (by simp)
    simp only [List.mem_cons, List.not_mem_nil, or_false] at h1
    have e : m = if i < j then i else j := by split <;> omega
    rw [e]; exact q
theorem wpo_none {QO : Option Int → List Cell → Prop} (q : QO none c) : WPo Y ρ c none QO := q
theorem wpo_some {e : Expr} {QO : Option Int → List Cell → Prop} (h : WE Y ρ c e fun w c1 => ∃ i, w = .im (.int i) ∧ QO (some i) c1) : WPo Y ρ c (some e) QO := h
end
end WL
/-! enumerate(zip(xs, ys)). -/
namespace PySem
open Sem (wp)
open AutoSeq1 (wpAny_loadPart')
/-- the record of a zip, whatever became of the tuple it gave out -/
abbrev ZRec (h : Heap) (z TI TO : Addr) (f0 : Value) (f : Bool) : Prop :=
  h.get? z = some { cls := .type "zip", dict := none, data := .fields #[f0, .bool f, .bool false, .ref TI, .ref TO], slots := #[] }
structure ZAt (h : Heap) (z TI TO i1 i2 l1 l2 : Addr) (k : Nat) : Prop where
  rc : ∃ f0 f, ZRec h z TI TO f0 f ∧ (f0 = .none ∨ ∃ T : Nat, f0 = rawInt T)
  ti : IsPair h TI (.ref i1) (.ref i2)
  to : ∃ a b, IsPair h TO a b
  a1 : h.IsListIter i1 l1 k
  a2 : h.IsListIter i2 l2 k
section
variable {prog : Program} {w : World} {A : Around} {E : Value → Shared → Prop} {s : Shared}
theorem alive_any {a : Addr} {Q : Option Obj → Shared → Prop} (h : Q (s.heap.get? a) s) : wpAny (model prog w) A (loadIfAlive a) Q E s := fun _ _ _ => h
theorem zfree_any {z TI TO : Addr} {f0 : Value} {f : Bool} {Q : Bool → Shared → Prop} (gz : ZRec s.heap z TI TO f0 f) (gf : f0 = .none ∨ ∃ T : Nat, f0 = rawInt T)
    (k : ∀ b g f', ZRec g z TI TO f0 f' → Heap.SameBut z s.heap g → Q b { s with heap := g }) : wpAny (model prog w) A (Builtin.SmallTypes.ownedTupleIsFree (.ref z)) Q E s := by
  unfold Builtin.SmallTypes.ownedTupleIsFree
  rcases gf with rfl | ⟨T, rfl⟩
  · exact wpAny_bind (wpAny_field gz rfl (x := .none) rfl (wpAny_pure (k true s.heap f gz (Heap.SameBut.refl _ _))))
  · refine wpAny_bind (wpAny_field gz rfl (x := rawInt T) rfl ?_)
    show wpAny _ _ (loadIfAlive ((T : Int).toNat) >>= _) _ _ _
    rw [Int.toNat_natCast]
    refine wpAny_bind (alive_any ?_)
    cases s.heap.get? T with
    | none => exact wpAny_pure (k true s.heap f gz (Heap.SameBut.refl _ _))
    | some oT =>
      simp only [Option.isNone_some, Bool.false_eq_true, if_false]
      refine wpAny_bind (wpAny_field gz rfl (x := .bool f) rfl ?_)
      cases f with
      | true =>
        rw [if_neg (show ¬ ((Value.bool true != .bool true) = true) from Bool.false_ne_true)]
        exact wpAny_pure (k false s.heap true gz (Heap.SameBut.refl _ _))
      | false =>
        rw [if_pos (show (Value.bool false != .bool true) = true from rfl)]
        exact wpAny_bind (wpAny_setField_rec gz (by simp) fun g gz1 gs => wpAny_pure (k false g true gz1 gs))
theorem zbody {z TI TO i1 i2 l1 l2 : Addr} {k : Nat} {xs ys : Array Value} {x y : Value} {Q : Value → Shared → Prop} (D : ZipApart z TI TO i1 i2 l1 l2) (Z : ZAt s.heap z TI TO i1 i2 l1 l2 k)
    (L1 : s.heap.IsList l1 xs) (L2 : s.heap.IsList l2 ys) (hx : xs[k]? = some x) (hy : ys[k]? = some y)
    (q : ∀ g, ZAt g z TI TO i1 i2 l1 l2 (k + 1) → IsPair g s.heap.objs.size x y → g.objs.size = s.heap.objs.size + 1 →
      (∀ c o, c ≠ z → c ≠ TO → c ≠ i1 → c ≠ i2 → s.heap.get? c = some o → g.get? c = some o) → Q (.ref s.heap.objs.size) { s with heap := g }) :
    wpAny (model prog w) A (Builtin.«zip.__next__» ⟨[.ref z], []⟩) (fun fin s' => ∃ v, fin = .done (.ret v) ∧ Q v s') E s := by
  obtain ⟨⟨f0, f, gz, gf⟩, gTI, ⟨a, b, gTO⟩, g1, g2⟩ := Z
  show wpAny _ _ (field (.ref z) 2 >>= _) _ _ s
  refine wpAny_bind (wpAny_field gz rfl (x := .bool false) rfl ?_)
  show wpAny _ _ (field (.ref z) 3 >>= _) _ _ s
  refine wpAny_bind (wpAny_field gz rfl (x := .ref TI) rfl ?_)
  refine wpAny_bind (wpAny_seqItems gTI rfl ?_)
  show wpAny _ _ (Builtin.SmallTypes.ownedTupleIsFree (.ref z) >>= _) _ _ s
  refine wpAny_bind (zfree_any gz gf fun bb e0 f' gz0 es0 => ?_)
  have gTO0 : IsPair e0 TO a b := es0.extBut _ _ D.TOz gTO
  cases bb with
  | false =>
    simp only [Bool.false_eq_true, if_false]
    refine wpAny_bind ?_
    rw [← Array.forIn_toList]
    simp only [List.forIn_cons, List.forIn_nil]
    refine wpAny_bind (wpAny_bind (wpAny_holding ?_))
    show wpAny _ _ (Builtin.SmallTypes.nextOf (.ref i1) >>= _) _ _ _
    refine wpAny_bind (wpAny_nextOf_list_item (s := { s with heap := e0 }) (g1.extBut es0.extBut D.i1z) (L1.extBut es0.extBut D.l1z) hx fun e1 k1 es1 => wpAny_pure ?_)
    refine wpAny_pure ?_
    refine wpAny_bind (wpAny_bind (wpAny_holding ?_))
    show wpAny _ _ (Builtin.SmallTypes.nextOf (.ref i2) >>= _) _ _ _
    refine wpAny_bind (wpAny_nextOf_list_item (s := { s with heap := e1 }) ((g2.extBut es0.extBut D.i2z).extBut es1.extBut D.i12.symm) ((L2.extBut es0.extBut D.l2z).extBut es1.extBut D.l2i1) hy fun e2 k2 es2 => wpAny_pure ?_)
    refine wpAny_pure (wpAny_pure ?_)
    show wpAny _ _ (newTuple [x, y] >>= _) _ _ _
    refine wpAny_bind (wpAny_newTuple ?_)
    have ez : e2.objs.size = s.heap.objs.size := by rw [es2.1, es1.1, es0.1]
    have gz2 : ZRec e2 z TI TO f0 f' := es2.extBut _ _ D.i2z.symm (es1.extBut _ _ D.i1z.symm gz0)
    have kk : ∀ c o, c ≠ z → c ≠ i1 → c ≠ i2 → s.heap.get? c = some o → e2.get? c = some o := fun c o c1 c2 c3 e => es2.extBut _ _ c3 (es1.extBut _ _ c2 (es0.extBut _ _ c1 e))
    refine wpAny_pure ⟨_, rfl, ?_⟩
    show Q (.ref e2.objs.size) _
    have hp : IsPair (e2.push { cls := .type "tuple", data := .seq #[x, y] }) e2.objs.size x y := Heap.get?_push_size _ rfl
    have hp2 : (e2.push { cls := .type "tuple", data := .seq #[x, y] }).objs.size = e2.objs.size + 1 := Heap.size_push ..
    rw [ez] at hp hp2 ⊢
    have up : ∀ c o, e2.get? c = some o → (e2.push { cls := .type "tuple", data := .seq #[x, y] }).get? c = some o := fun c o e => Heap.get?_push_of_some _ e
    exact q _ ⟨⟨f0, f', up _ _ gz2, gf⟩, up _ _ (kk _ _ D.TIz D.TIi1 D.TIi2 gTI), ⟨a, b, up _ _ (kk _ _ D.TOz D.TOi1 D.TOi2 gTO)⟩, (k1.extBut es2.extBut D.i12).at fun o e => up _ o e, k2.at fun o e => up _ o e⟩ hp hp2
      fun c o c1 c2 c3 c4 e => up _ _ (kk c o c1 c3 c4 e)
  | true =>
    simp only [if_true]
    refine wpAny_bind (wpAny_rule ?_)
    refine wpAny_bind (wpAny_field gz0 rfl (x := .ref TO) rfl ?_)
    refine wpAny_bind (wpAny_setField_rec gz0 (by simp) fun e1 gz1 es1 => ?_)
    replace gz1 : ZRec e1 z TI TO .ellipsis f' := gz1
    refine wpAny_bind ?_
    simp only [List.zipIdx_cons, List.zipIdx_nil, List.forIn_cons, List.forIn_nil]
    refine wpAny_bind (wpAny_bind (wpAny_onRaise ?_))
    show wpAny _ _ (Builtin.SmallTypes.nextOf (.ref i1) >>= _) _ _ _
    refine wpAny_bind (wpAny_nextOf_list_item ((g1.extBut es0.extBut D.i1z).extBut es1.extBut D.i1z) ((L1.extBut es0.extBut D.l1z).extBut es1.extBut D.l1z) hx fun e2 k1 es2 => wpAny_pure ?_)
    have gTO2 : IsPair e2 TO a b := es2.extBut _ _ D.TOi1 (es1.extBut _ _ D.TOz gTO0)
    refine wpAny_bind (wpAny_seqItems gTO2 rfl ?_)
    refine wpAny_bind (wpAny_updateSeq_pair gTO2 fun e3 gTO3 es3 => ?_)
    replace gTO3 : IsPair e3 TO x b := gTO3
    refine wpAny_bind (wpAny_letGo (wpAny_pure ?_))
    refine wpAny_bind (wpAny_bind (wpAny_onRaise ?_))
    show wpAny _ _ (Builtin.SmallTypes.nextOf (.ref i2) >>= _) _ _ _
    refine wpAny_bind (wpAny_nextOf_list_item ((((g2.extBut es0.extBut D.i2z).extBut es1.extBut D.i2z).extBut es2.extBut D.i12.symm).extBut es3.extBut D.TOi2.symm)
      ((((L2.extBut es0.extBut D.l2z).extBut es1.extBut D.l2z).extBut es2.extBut D.l2i1).extBut es3.extBut D.l2TO) hy fun e4 k2 es4 => wpAny_pure ?_)
    have gTO4 : IsPair e4 TO x b := es4.extBut _ _ D.TOi2 gTO3
    refine wpAny_bind (wpAny_seqItems gTO4 rfl ?_)
    refine wpAny_bind (wpAny_updateSeq_pair gTO4 fun e5 gTO5 es5 => ?_)
    replace gTO5 : IsPair e5 TO x y := gTO5
    refine wpAny_bind (wpAny_letGo (wpAny_pure (wpAny_pure ?_)))
    refine wpAny_bind (wpAny_seqItems gTO5 rfl ?_)
    refine wpAny_bind (wpAny_newTuple ?_)
    have ez : e5.objs.size = s.heap.objs.size := by rw [es5.1, es4.1, es3.1, es2.1, es1.1, es0.1]
    have gz5 : ZRec e5 z TI TO .ellipsis f' := es5.extBut _ _ D.TOz.symm (es4.extBut _ _ D.i2z.symm (es3.extBut _ _ D.TOz.symm (es2.extBut _ _ D.i1z.symm gz1)))
    have k5 : ∀ c o, c ≠ z → c ≠ TO → c ≠ i1 → c ≠ i2 → s.heap.get? c = some o → e5.get? c = some o := fun c o c1 c2 c3 c4 e =>
      es5.extBut _ _ c2 (es4.extBut _ _ c4 (es3.extBut _ _ c2 (es2.extBut _ _ c3 (es1.extBut _ _ c1 (es0.extBut _ _ c1 e)))))
    have m1 : e5.IsListIter i1 l1 (k + 1) := ((k1.extBut es3.extBut D.TOi1.symm).extBut es4.extBut D.i12).extBut es5.extBut D.TOi1.symm
    have m2 : e5.IsListIter i2 l2 (k + 1) := k2.extBut es5.extBut D.TOi2.symm
    have zl : z < e5.objs.size := Heap.lt_size gz5
    show wpAny _ _ (Builtin.SmallTypes.ownedTupleHandOut (.ref z) (.ref e5.objs.size) >>= _) _ _ _
    refine wpAny_bind ?_
    unfold Builtin.SmallTypes.ownedTupleHandOut
    have gz6 : ZRec (e5.push { cls := .type "tuple", data := .seq #[x, y] }) z TI TO .ellipsis f' := Heap.get?_push_of_some _ gz5
    refine wpAny_bind (wpAny_setField_rec gz6 (by simp) fun e7 gz7 es7 => ?_)
    replace gz7 : ZRec e7 z TI TO (rawInt e5.objs.size) f' := gz7
    refine wpAny_setField_rec gz7 (by simp) fun e8 gz8 es8 => ?_
    replace gz8 : ZRec e8 z TI TO (rawInt e5.objs.size) false := gz8
    have up : ∀ c o, c ≠ z → e5.get? c = some o → e8.get? c = some o := fun c o c1 e => es8.extBut _ _ c1 (es7.extBut _ _ c1 (Heap.get?_push_of_some _ e))
    have hT : IsPair e8 e5.objs.size x y := es8.extBut _ _ (Nat.ne_of_gt zl) (es7.extBut _ _ (Nat.ne_of_gt zl) (Heap.get?_push_size _ rfl))
    have h8 : e8.objs.size = e5.objs.size + 1 := by rw [es8.1, es7.1, Heap.size_push]
    rw [ez] at gz8 hT h8
    refine wpAny_pure ⟨_, rfl, ?_⟩
    show Q (.ref e5.objs.size) _
    rw [ez]
    exact q e8 ⟨⟨_, _, gz8, .inr ⟨_, rfl⟩⟩, up _ _ D.TIz (k5 _ _ D.TIz D.TITO D.TIi1 D.TIi2 gTI), ⟨x, y, up _ _ D.TOz gTO5⟩, m1.at fun o e => up _ o D.i1z e, m2.at fun o e => up _ o D.i2z e⟩ hT h8
      fun c o c1 c2 c3 c4 e => up c o c1 (k5 c o c1 c2 c3 c4 e)
theorem zbody_end {z TI TO i1 i2 l1 l2 : Addr} {k : Nat} {xs : Array Value} {Q : PySem.Fin → Shared → Prop} (hh : A.handled = none) (D : ZipApart z TI TO i1 i2 l1 l2) (Z : ZAt s.heap z TI TO i1 i2 l1 l2 k)
    (L1 : s.heap.IsList l1 xs) (hx : xs[k]? = none)
    (q : ∀ g e, (∀ c o, c ≠ z → c ≠ TO → c ≠ i1 → c ≠ i2 → s.heap.get? c = some o → g.get? c = some o) → (∃ o, g.get? e = some o ∧ o.cls = .type "StopIteration") → E (.ref e) { s with heap := g }) :
    wpAny (model prog w) A (Builtin.«zip.__next__» ⟨[.ref z], []⟩) Q E s := by
  obtain ⟨⟨f0, f, gz, gf⟩, gTI, ⟨a, b, gTO⟩, g1, g2⟩ := Z
  show wpAny _ _ (field (.ref z) 2 >>= _) _ _ s
  refine wpAny_bind (wpAny_field gz rfl (x := .bool false) rfl ?_)
  show wpAny _ _ (field (.ref z) 3 >>= _) _ _ s
  refine wpAny_bind (wpAny_field gz rfl (x := .ref TI) rfl ?_)
  refine wpAny_bind (wpAny_seqItems gTI rfl ?_)
  show wpAny _ _ (Builtin.SmallTypes.ownedTupleIsFree (.ref z) >>= _) _ _ s
  refine wpAny_bind (zfree_any gz gf fun bb e0 f' gz0 es0 => ?_)
  cases bb with
  | false =>
    simp only [Bool.false_eq_true, if_false]
    refine wpAny_bind ?_
    rw [← Array.forIn_toList]
    simp only [List.forIn_cons, List.forIn_nil]
    refine wpAny_bind (wpAny_bind (wpAny_holding ?_))
    show wpAny _ _ (Builtin.SmallTypes.nextOf (.ref i1) >>= _) _ _ _
    refine wpAny_bind (wpAny_nextOf_list_end (s := { s with heap := e0 }) hh (g1.extBut es0.extBut D.i1z) (L1.extBut es0.extBut D.l1z) hx fun e1 e es1 he => ?_)
    exact q e1 e (fun c o c1 _ c3 _ y => es1 _ _ c3 (es0.extBut _ _ c1 y)) he
  | true =>
    simp only [if_true]
    refine wpAny_bind (wpAny_rule ?_)
    refine wpAny_bind (wpAny_field gz0 rfl (x := .ref TO) rfl ?_)
    refine wpAny_bind (wpAny_setField_rec gz0 (by simp) fun e1 gz1 es1 => ?_)
    replace gz1 : ZRec e1 z TI TO .ellipsis f' := gz1
    refine wpAny_bind ?_
    simp only [List.zipIdx_cons, List.zipIdx_nil, List.forIn_cons, List.forIn_nil]
    refine wpAny_bind (wpAny_bind (wpAny_onRaise ?_))
    show wpAny _ _ (Builtin.SmallTypes.nextOf (.ref i1) >>= _) _ _ _
    refine wpAny_bind (wpAny_nextOf_list_end hh ((g1.extBut es0.extBut D.i1z).extBut es1.extBut D.i1z) ((L1.extBut es0.extBut D.l1z).extBut es1.extBut D.l1z) hx fun e2 e es2 he => ?_)
    obtain ⟨oe, ho, hc⟩ := he
    have gz2 : ZRec e2 z TI TO .ellipsis f' := es2 _ _ D.i1z.symm gz1
    have hne : e ≠ z := fun y => by subst y; rw [gz2] at ho; cases ho; simp at hc
    refine wpAny_setField_rec gz2 (by simp) fun e3 _ es3 => q e3 e (fun c o c1 _ c3 _ y => es3.extBut _ _ c1 (es2 _ _ c3 (es1.extBut _ _ c1 (es0.extBut _ _ c1 y)))) ⟨oe, es3.extBut _ _ hne ho, hc⟩
theorem ZAt.ty {z TI TO i1 i2 l1 l2 : Addr} {k : Nat} (Z : ZAt s.heap z TI TO i1 i2 l1 l2 k) : s.TypeIs (.ref z) "zip" := by
  obtain ⟨f0, f, gz, _⟩ := Z.rc
  exact ⟨_, gz, rfl⟩
theorem znext {z TI TO i1 i2 l1 l2 : Addr} {k : Nat} {xs ys : Array Value} {x y : Value} {Q : Value → Shared → Prop} (D : ZipApart z TI TO i1 i2 l1 l2) (Z : ZAt s.heap z TI TO i1 i2 l1 l2 k)
    (L1 : s.heap.IsList l1 xs) (L2 : s.heap.IsList l2 ys) (hx : xs[k]? = some x) (hy : ys[k]? = some y)
    (q : ∀ g, ZAt g z TI TO i1 i2 l1 l2 (k + 1) → IsPair g s.heap.objs.size x y → g.objs.size = s.heap.objs.size + 1 →
      (∀ c o, c ≠ z → c ≠ TO → c ≠ i1 → c ≠ i2 → s.heap.get? c = some o → g.get? c = some o) → Q (.ref s.heap.objs.size) { s with heap := g }) :
    wpAny (model prog w) A (Builtin.SmallTypes.nextOf (.ref z)) Q E s := by
  have ty := Z.ty
  unfold Builtin.SmallTypes.nextOf
  exact wpAny_bind (wpAny_callSpecial?_slot (name := Str.ofString "__next__") ty F.slot_zip_next (wpAny_call_entry F.slot_zip_next ty F.entry_zip_next (zbody D Z L1 L2 hx hy fun g a b c d => wpAny_pure (q g a b c d)) (F.args_zip_next_1 _)))
theorem znext_end {z TI TO i1 i2 l1 l2 : Addr} {k : Nat} {xs : Array Value} {Q : Value → Shared → Prop} (hh : A.handled = none) (D : ZipApart z TI TO i1 i2 l1 l2) (Z : ZAt s.heap z TI TO i1 i2 l1 l2 k)
    (L1 : s.heap.IsList l1 xs) (hx : xs[k]? = none)
    (q : ∀ g e, (∀ c o, c ≠ z → c ≠ TO → c ≠ i1 → c ≠ i2 → s.heap.get? c = some o → g.get? c = some o) → (∃ o, g.get? e = some o ∧ o.cls = .type "StopIteration") → E (.ref e) { s with heap := g }) :
    wpAny (model prog w) A (Builtin.SmallTypes.nextOf (.ref z)) Q E s := by
  have ty := Z.ty
  unfold Builtin.SmallTypes.nextOf
  exact wpAny_bind (wpAny_callSpecial?_slot (name := Str.ofString "__next__") ty F.slot_zip_next (wpAny_call_entry F.slot_zip_next ty F.entry_zip_next (zbody_end hh D Z L1 hx q) (F.args_zip_next_1 _)))
/-- next of an enumerate, whatever it goes through -/
theorem enext {e it : Addr} {i : Nat} {old x : Value} {R : Heap → Prop} {Q : Option Value → Shared → Prop} (ge : IsEnum s.heap e it i old)
    (nx : ∀ {E' : Value → Shared → Prop} {Q' : Value → Shared → Prop}, (∀ g, R g → IsEnum g e it i old → Q' x { s with heap := g }) → wpAny (model prog w) A.in1 (Builtin.SmallTypes.nextOf (.ref it)) Q' E' s)
    (q : ∀ g e8, R g → IsEnumOut e8 e it ((i : Int) + 1) x g.objs.size → e8.get? g.objs.size = some { cls := .type "tuple", data := .seq #[.int i s.toks, x] } → e8.objs.size = g.objs.size + 1 →
      (∀ b o, b ≠ e → g.get? b = some o → e8.get? b = some o) → Q (some (.ref g.objs.size)) { s with heap := e8, toks := s.toks + 1 }) :
    wpAny (model prog w) A (pyNext (.ref e)) Q E s := by
  have ty : s.TypeIs (.ref e) "enumerate" := ⟨_, ge, rfl⟩
  unfold pyNext
  refine wpAny_bind (wpAny_attempt (wpAny_callSpecial?_slot (name := Str.ofString "__next__") ty F.slot_enumerate_next
    (wpAny_call_entry F.slot_enumerate_next ty F.entry_enumerate_next ?_ (F.args_enumerate_next_1 _))))
  obtain ⟨hp, gg, dd, tk, oo⟩ := s
  show wpAny _ _ (field (.ref e) 2 >>= _) _ _ _
  refine wpAny_bind (wpAny_field ge rfl (x := .ref it) rfl ?_)
  refine wpAny_bind (nx fun g rg g0 => ?_)
  show wpAny _ _ (field (.ref e) 3 >>= _) _ _ ⟨g, gg, dd, tk, oo⟩
  refine wpAny_bind (wpAny_field g0 rfl (x := rawInt i) rfl ?_)
  show wpAny _ _ (field (.ref e) 4 >>= _) _ _ ⟨g, gg, dd, tk, oo⟩
  refine wpAny_bind (wpAny_field g0 rfl (x := .none) rfl ?_)
  show wpAny _ _ (mkInt i >>= _) _ _ ⟨g, gg, dd, tk, oo⟩
  refine wpAny_bind (wpAny_mkInt ?_)
  show wpAny _ _ (setField (.ref e) 3 (rawInt ((i : Int) + 1)) >>= _) _ _ ⟨g, gg, dd, tk + 1, oo⟩
  refine wpAny_bind (wpAny_setField_rec g0 (by simp) fun e2 g2 es2 => ?_)
  replace es2 : Heap.SameBut e g e2 := es2
  replace g2 : IsEnum e2 e it ((i : Int) + 1) old := g2
  show wpAny _ _ (setField (.ref e) 4 .none >>= _) _ _ ⟨e2, gg, dd, tk + 1, oo⟩
  refine wpAny_bind (wpAny_setField_rec g2 (by simp) fun e3 g3 es3 => ?_)
  replace es3 : Heap.SameBut e e2 e3 := es3
  replace g3 : IsEnum e3 e it ((i : Int) + 1) old := g3
  show wpAny _ _ (newTuple [.int i tk, x] >>= _) _ _ ⟨e3, gg, dd, tk + 1, oo⟩
  refine wpAny_bind (wpAny_newTuple ?_)
  have g4 : IsEnum (e3.push { cls := .type "tuple", data := .seq #[.int i tk, x] }) e it ((i : Int) + 1) old := Heap.get?_push_of_some _ g3
  generalize hh4 : e3.push { cls := .type "tuple", data := .seq #[.int i tk, x] } = e4 at g4
  have ez : e3.objs.size = g.objs.size := by rw [es3.1, es2.1]
  have gl : e < g.objs.size := Heap.lt_size g0
  have t4 : e4.get? g.objs.size = some { cls := .type "tuple", data := .seq #[.int i tk, x] } := by rw [← hh4, ← ez]; exact Heap.get?_push_size _ rfl
  have z4 : e4.objs.size = g.objs.size + 1 := by rw [← hh4, Heap.size_push, ez]
  have k4 : ∀ b o, b ≠ e → g.get? b = some o → e4.get? b = some o := fun b o hb y => by
    rw [← hh4]; exact Heap.get?_push_of_some _ (es3.extBut b o hb (es2.extBut b o hb y))
  show wpAny _ _ (Builtin.SmallTypes.ownedTupleIsFree (.ref e) >>= _) _ _ ⟨e4, gg, dd, tk + 1, oo⟩
  rw [ez]
  clear hh4 g3 es3 g2 es2 ez e3 e2
  refine wpAny_bind ?_
  · unfold Builtin.SmallTypes.ownedTupleIsFree
    refine wpAny_bind (wpAny_field g4 rfl (x := .none) rfl (wpAny_pure ?_))
    simp only [if_true]
    refine wpAny_bind (wpAny_rule ?_)
    refine wpAny_bind (wpAny_field g4 rfl (x := old) rfl ?_)
    refine wpAny_bind (wpAny_setField_rec g4 (by simp) fun e5 g5 es5 => ?_)
    replace es5 : Heap.SameBut e e4 e5 := es5
    replace g5 : IsEnum e5 e it ((i : Int) + 1) x := g5
    show wpAny _ _ (Builtin.SmallTypes.ownedTupleHandOut (.ref e) (.ref g.objs.size) >>= _) _ _ ⟨e5, gg, dd, tk + 1, oo⟩
    refine wpAny_bind ?_
    · unfold Builtin.SmallTypes.ownedTupleHandOut
      refine wpAny_bind (wpAny_setField_rec g5 (by simp) fun e6 g6 es6 => ?_)
      replace es6 : Heap.SameBut e e5 e6 := es6
      replace g6 : IsEnumOut e6 e it ((i : Int) + 1) x g.objs.size := g6
      refine wpAny_setField_rec g6 (by simp) fun e7 g7 es7 => ?_
      replace es7 : Heap.SameBut e e6 e7 := es7
      replace g7 : IsEnumOut e7 e it ((i : Int) + 1) x g.objs.size := g7
      refine wpAny_bind (wpAny_letGo (wpAny_pure ⟨_, rfl, wpAny_pure (q g e7 rg g7 ?_ ?_ ?_)⟩))
      · exact es7.extBut _ _ (Nat.ne_of_gt gl) (es6.extBut _ _ (Nat.ne_of_gt gl) (es5.extBut _ _ (Nat.ne_of_gt gl) t4))
      · rw [es7.1, es6.1, es5.1, z4]
      · exact fun b o hb y => es7.extBut b o hb (es6.extBut b o hb (es5.extBut b o hb (k4 b o hb y)))
theorem enext_end {e it : Addr} {i : Nat} {old : Value} {R : Heap → Prop} {Q : Option Value → Shared → Prop} (ge : IsEnum s.heap e it i old)
    (nx : ∀ {E' : Value → Shared → Prop} {Q' : Value → Shared → Prop}, (∀ g x, R g → (∃ o, g.get? x = some o ∧ o.cls = .type "StopIteration") → E' (.ref x) { s with heap := g }) → wpAny (model prog w) A.in1 (Builtin.SmallTypes.nextOf (.ref it)) Q' E' s)
    (q : ∀ g, R g → Q none { s with heap := g }) : wpAny (model prog w) A (pyNext (.ref e)) Q E s := by
  have ty : s.TypeIs (.ref e) "enumerate" := ⟨_, ge, rfl⟩
  unfold pyNext
  refine wpAny_bind (wpAny_attempt (wpAny_callSpecial?_slot (name := Str.ofString "__next__") ty F.slot_enumerate_next
    (wpAny_call_entry F.slot_enumerate_next ty F.entry_enumerate_next ?_ (F.args_enumerate_next_1 _))))
  show wpAny _ _ (field (.ref e) 2 >>= _) _ _ s
  refine wpAny_bind (wpAny_field ge rfl (x := .ref it) rfl ?_)
  refine wpAny_bind (nx fun g x rg hx => ?_)
  obtain ⟨o, ho, hc⟩ := hx
  refine wpAny_bind (wpAny_isInstance (T := "StopIteration") (b := true) ⟨o, ho, hc⟩ isSubtype_stop (wpAny_pure (q g rg)))
/-! ### enumerate(a zip) -/
theorem enumZ_new (z TI TO : Addr) :
    Meets (Builtin.«enumerate.__new__» ⟨[.type "enumerate", .ref z], []⟩) (fun _ R s => IsZip s.heap z TI TO .none ∧
      R (.ok (.ret (.ref s.heap.objs.size)))
        { s with heap := s.heap.push { cls := .type "enumerate", data := .fields #[.none, .bool false, .ref z, rawInt 0, .none, .none] } }) :=
  .of_wp fun pr wd Ar Rr st hh => by
    obtain ⟨hp, g, d, tk, os⟩ := st; obtain ⟨hl, hh⟩ := hh
    have hsub := sub_enumerate
    wp_walk using wpAny_loadPart' hl
    refine wpAny_stack_any fun sk => wpAny_pure ?_
    split
    · rename_i cc _ _ _ _ _
      cases (cc == Value.type "enumerate")
      · wp_walk using wpAny_loadPart' hl, wpAny_pyIter_zip hl
        exact ⟨_, rfl, hh⟩
      · wp_walk using wpAny_loadPart' hl, wpAny_pyIter_zip hl
        exact ⟨_, rfl, hh⟩
    · wp_walk using wpAny_loadPart' hl, wpAny_pyIter_zip hl
      exact ⟨_, rfl, hh⟩
theorem enumZ_call {z TI TO : Addr} {Q : Value → Shared → Prop} (hl : IsZip s.heap z TI TO .none)
    (h : ∀ h1, IsEnum h1 s.heap.objs.size z 0 .none → (∀ b o, s.heap.get? b = some o → h1.get? b = some o) → Q (.ref s.heap.objs.size) { s with heap := h1 }) :
    wpAny (model prog w) A (call (.type "enumerate") [.ref z]) Q E s := by
  refine callType_new F.called_enumerate (by decide) (F.typeCall_enumerate_1 _) (F.newCall_enumerate_1 _) (fun ob => F.args_object_init_2 ob _) F.entry_enumerate_new (enumZ_new z TI TO) ⟨hl, ?_⟩
  have he : IsEnum (s.heap.push { cls := .type "enumerate", data := .fields #[.none, .bool false, .ref z, rawInt 0, .none, .none] }) s.heap.objs.size z 0 .none := Heap.get?_push_size _ rfl
  exact ⟨⟨_, he, rfl⟩, h _ he fun b o x => Heap.get?_push_of_some _ x⟩
end
end PySem
namespace WL
open PySem PySem.Spec PyProof.Rows L2
/-- the lists at a and b, each pair in a new pair with its number -/
def IteZ (K : PySem.W.Frag) (a b : Addr) : It :=
  ⟨fun i H => ∃ (xs ys : List V) (x y : V), SqL K H a xs ∧ SqL K H b ys ∧ xs[i]? = some x ∧ ys[i]? = some y,
    fun i H v H' => ∃ p T x y, v = .ref T ∧ H p = none ∧ H T = none ∧ p ≠ T ∧ H' = upd (upd H p (.tup [x, y])) T (.tup [.int (i : Nat), .ref p]) ∧ (∀ xs, SqL K H a xs → xs[i]? = some x) ∧ ∀ ys, SqL K H b ys → ys[i]? = some y,
    fun i H => ∃ xs : List V, SqL K H a xs ∧ xs.length ≤ i⟩
theorem turn_enumZ {P : Program} {w : World} {K : PySem.W.Frag} {elts : List Expr} {kk : Nat} {tpos : Pos} {a b e z TI TO i1 i2 : Addr} (D : ZipApart z TI TO i1 i2 a b) (he : e ∉ [z, TI, TO, i1, i2]) :
    Turn P w K (.Tuple elts kk tpos) (IteZ K a b) [e, z, TI, TO, i1, i2] e (fun i h => (∃ old, IsEnum h e z ((i : Nat) : Int) old) ∧ ZAt h z TI TO i1 i2 a b i) where
  mem := by simp
  obj := fun i h st c hc => by
    obtain ⟨⟨od, ge⟩, ⟨f0, f, gz, _⟩, gTI, ⟨x, y, gTO⟩, ⟨o1, e1, _, d1⟩, ⟨o2, e2, _, d2⟩⟩ := st
    have cs : c = e ∨ c = z ∨ c = TI ∨ c = TO ∨ c = i1 ∨ c = i2 := by simpa using hc
    rcases cs with rfl | rfl | rfl | rfl | rfl | rfl
    · exact ⟨_, ge, fun v q => nomatch q⟩
    · exact ⟨_, gz, fun v q => nomatch q⟩
    · exact ⟨_, gTI, fun v q => nomatch q⟩
    · exact ⟨_, gTO, fun v q => nomatch q⟩
    · exact ⟨o1, e1, fun v q => by rw [d1] at q; cases q⟩
    · exact ⟨o2, e2, fun v q => by rw [d2] at q; cases q⟩
  keep := fun i h h' st k => by
    obtain ⟨⟨od, ge⟩, ⟨f0, f, gz, gf⟩, gTI, ⟨x, y, gTO⟩, h1, h2⟩ := st
    exact ⟨⟨od, k e (by simp) _ ge⟩, ⟨f0, f, k z (by simp) _ gz, gf⟩, k TI (by simp) _ gTI, ⟨x, y, k TO (by simp) _ gTO⟩, h1.at fun o q => k i1 (by simp) o q, h2.at fun o q => k i2 (by simp) o q⟩
  item := by
    intro X hP hw hK hc i pins s σ H E I hf st hg
    subst hP hw hK
    obtain ⟨⟨od, ge⟩, Z⟩ := st
    obtain ⟨xs, ys, x, y, hqx, hqy, hx, hy⟩ := hg
    obtain ⟨its, rv, p, _⟩ := I.list hqx
    obtain ⟨its2, rv2, p2, _⟩ := I.list hqy
    obtain ⟨u, hu, ru⟩ := rv.get hx
    obtain ⟨u2, hu2, ru2⟩ := rv2.get hy
    have hel : e < s.heap.objs.size := Heap.lt_size ge
    have hne : ∀ c ∈ [z, TI, TO, i1, i2], e ≠ c := fun c hc q => he (q ▸ hc)
    refine enext (R := fun g => ZAt g z TI TO i1 i2 a b (i + 1) ∧ IsPair g s.heap.objs.size u u2 ∧ g.objs.size = s.heap.objs.size + 1 ∧ ∀ c o, c ∉ [z, TI, TO, i1, i2] → s.heap.get? c = some o → g.get? c = some o) ge
      (fun q => znext D Z p.isList p2.isList (x := u) (y := u2) (by simpa using hu) (by simpa using hu2) fun g g1 g2 g3 g4 =>
        q g ⟨g1, g2, g3, fun c o hc e0 => g4 c o (fun r => hc (by simp [r])) (fun r => hc (by simp [r])) (fun r => hc (by simp [r])) (fun r => hc (by simp [r])) e0⟩ (g4 e _ (hne _ (by simp)) (hne _ (by simp)) (hne _ (by simp)) (hne _ (by simp)) ge))
      fun g e8 rg ho hT hz hk => ?_
    obtain ⟨g1, g2, g3, g4⟩ := rg
    have hne2 : s.heap.objs.size ≠ e := Nat.ne_of_gt hel
    have lt5 : ∀ c ∈ [z, TI, TO, i1, i2], c < s.heap.objs.size := fun c hc => by
      obtain ⟨⟨f0, f, gz, _⟩, gTI, ⟨x, y, gTO⟩, ⟨o1, e1, _⟩, ⟨o2, e2, _⟩⟩ := Z
      have cs : c = z ∨ c = TI ∨ c = TO ∨ c = i1 ∨ c = i2 := by simpa using hc
      rcases cs with rfl | rfl | rfl | rfl | rfl
      · exact Heap.lt_size gz
      · exact Heap.lt_size gTI
      · exact Heap.lt_size gTO
      · exact Heap.lt_size e1
      · exact Heap.lt_size e2
    refine ⟨_, rfl, wpAny_letOwnedTupleGo_enum (s := { s with heap := e8, toks := s.toks + 1 }) ho fun e9 he9 sb => ?_⟩
    have new1 : ObjOk X.prog X.w (upd H s.heap.objs.size (.tup [x, y])) g s.heap.objs.size (.tup [x, y]) :=
      ⟨by show 2 ≤ sizeLine; decide, [u, u2], .cons ru (.cons ru2 .nil), ⟨_, g2, rfl, _, rfl⟩⟩
    have I1 : Inv X pins σ (upd H s.heap.objs.size (.tup [x, y])) { s with heap := g, toks := s.toks } :=
      I.turnedNew (t' := s.toks) (ch := [z, TI, TO, i1, i2]) (fun c o hb q => g4 c o hb q) (fun c hc => hf c (List.mem_cons_of_mem _ hc)) (Nat.le_refl _) new1
    have hfe := hf e (by simp)
    have hfe2 : ∀ c ∈ [e], FpOk X pins (upd H s.heap.objs.size (.tup [x, y])) c := fun c hc => by
      rw [List.mem_singleton.mp hc]
      exact ⟨by rw [upd_ne (Ne.symm hne2)]; exact hfe.1, hfe.2⟩
    have hT2 : e9.get? g.objs.size = some { cls := .type "tuple", data := .seq #[.int i s.toks, .ref s.heap.objs.size] } := (sb.2 _ (by rw [g3]; exact Nat.ne_of_gt (Nat.lt_succ_of_lt hel))).trans hT
    have new2 : ObjOk X.prog X.w (upd (upd H s.heap.objs.size (.tup [x, y])) g.objs.size (.tup [.int (i : Nat), .ref s.heap.objs.size])) e9 g.objs.size (.tup [.int (i : Nat), .ref s.heap.objs.size]) :=
      ⟨by show 2 ≤ sizeLine; decide, [.int i s.toks, .ref s.heap.objs.size], .cons ⟨_, rfl⟩ (.cons rfl .nil), ⟨_, hT2, rfl, _, rfl⟩⟩
    have I2 : Inv X pins σ (upd (upd H s.heap.objs.size (.tup [x, y])) g.objs.size (.tup [.int (i : Nat), .ref s.heap.objs.size])) { s with heap := e9, toks := s.toks + 1 } :=
      Inv.turnedNew (s := { s with heap := g, toks := s.toks }) (t' := s.toks + 1) (ch := [e]) I1 (fun c o hb q => (sb.2 c (fun r => hb (by simp [r]))).trans (hk c o (fun r => hb (by simp [r])) q)) hfe2 (Nat.le_refl _) new2
    have up : ∀ c o, c ≠ e → g.get? c = some o → e9.get? c = some o := fun c o hb q => (sb.2 c hb).trans (hk c o hb q)
    refine ⟨.ref g.objs.size, _, I2, rfl, ⟨s.heap.objs.size, g.objs.size, x, y, rfl, I.hok.fresh (Nat.le_refl _), I.hok.fresh (by rw [g3]; exact Nat.le_succ _), by rw [g3]; exact Nat.ne_of_lt (Nat.lt_succ_self _), rfl, fun l hl => by rw [I.list_inj hl hqx]; exact hx, fun l hl => by rw [I.list_inj hl hqy]; exact hy⟩, ⟨⟨.ref s.heap.objs.size, ?_⟩, ?_⟩, fun c hcm => ?_⟩
    · rw [show ((i + 1 : Nat) : Int) = (i : Int) + 1 by omega]; exact he9
    · obtain ⟨⟨f0, f, gz, gf⟩, gTI, ⟨x0, y0, gTO⟩, m1, m2⟩ := g1
      exact ⟨⟨f0, f, up _ _ (Ne.symm (hne z (by simp))) gz, gf⟩, up _ _ (Ne.symm (hne TI (by simp))) gTI, ⟨x0, y0, up _ _ (Ne.symm (hne TO (by simp))) gTO⟩, m1.at fun o q => up _ o (Ne.symm (hne i1 (by simp))) q, m2.at fun o q => up _ o (Ne.symm (hne i2 (by simp))) q⟩
    · have hlt : c < s.heap.objs.size := by
        rcases List.mem_cons.mp hcm with rfl | hcm
        · exact hel
        · exact lt5 c hcm
      rw [upd_ne (by rw [g3]; exact Nat.ne_of_lt (Nat.lt_succ_of_lt hlt)), upd_ne (Nat.ne_of_lt hlt)]
      exact (hf c hcm).1
  done := by
    intro X hP hw hK hc i pins s σ H E I hf st hg
    subst hP hw hK
    obtain ⟨⟨od, ge⟩, Z⟩ := st
    obtain ⟨xs, hqx, hend⟩ := hg
    obtain ⟨its, rv, p, _⟩ := I.list hqx
    have l1 := rv.length
    have hne : ∀ c ∈ [z, TI, TO, i1, i2], e ≠ c := fun c hc q => he (q ▸ hc)
    refine enext_end (R := fun g => ∀ c o, c ∉ [e, z, TI, TO, i1, i2] → s.heap.get? c = some o → g.get? c = some o) ge
      (fun q => znext_end (I.ok.hd hc) D Z p.isList (by simp; omega) fun g x g4 hx => q g x (fun c o hb e0 => g4 c o (fun r => hb (by simp [r])) (fun r => hb (by simp [r])) (fun r => hb (by simp [r])) (fun r => hb (by simp [r])) e0) hx)
      fun g hk => ⟨rfl, I.turnedL (t' := s.toks) (ch := [e, z, TI, TO, i1, i2]) hk hf⟩
  self := fun A i s Q E st h => let ⟨⟨_, ge⟩, _⟩ := st; wpAny_pyIter_enum ge h
def iEnumZ (K : PySem.W.Frag) (ta : TA) : TI := fun σ H R => ta σ H fun vs H1 => ∃ a b xs ys, vs = [.ref a, .ref b] ∧ SqL K H1 a xs ∧ SqL K H1 b ys ∧ R (IteZ K a b) H1
theorem pi_enumZ {X : Cx} {e1 e2 : Expr} {ta : TA} {p pz pos posz tpos : Pos} {elts : List Expr} {kk : Nat} (hg : Gl X "enumerate") (hm : X.mg "enumerate" = none) (hgz : Gl X "zip") (hmz : X.mg "zip" = none) (ha : PA X [e1, e2] ta)
    (hs : starEach [.Call (.Name "zip" pz) [e1, e2] [] posz] X.env = [(false, eval (.Call (.Name "zip" pz) [e1, e2] [] posz) X.env)])
    (hsz : starEach [e1, e2] X.env = (false, eval e1 X.env) :: starEach [e2] X.env) (hpl : (backTo posz (starEach [e2] X.env)).any (·.1) = false) :
    PI X (.Tuple elts kk tpos) (.Call (.Name "enumerate" p) [.Call (.Name "zip" pz) [e1, e2] [] posz] [] pos) (iEnumZ X.K ta) := by
  refine ⟨fun pins s σ H R I hR => ?_⟩
  refine Call_ (ld_blt I hg hm boot_enumerate (PyProof.Rows.callWith_type1 ?_ hs rfl))
  rw [hs]
  show wpAny _ _ (spliced ((false, eval (.Call (.Name "zip" pz) [e1, e2] [] posz) X.env) :: backTo pos (starEach [] X.env))) _ _ s
  refine Calls.spliced_cons ?_
  refine Call_ (ld_blt I hgz hmz PyProof.Rows.boot_zip (PyProof.Rows.callWith_type1 (thn (ha.run posz pins s σ H _ I hR) fun us s1 ⟨vs, H1, I1, r1, q1⟩ => ?_) hsz hpl))
  obtain ⟨a, b, xs, ys, ex, hqx, hqy, q⟩ := q1
  subst ex
  cases r1 with
  | cons r rr =>
    cases rr with
    | cons r' rr =>
      cases rr
      cases r
      cases r'
      obtain ⟨its, rv, p1, _⟩ := I1.list hqx
      obtain ⟨its2, rv2, p2, _⟩ := I1.list hqy
      have la : a < s1.heap.objs.size := p1.lt
      have lb : b < s1.heap.objs.size := p2.lt
      refine call_zip_2 p1.isList p2.isList fun h1 hz hTI hTO t1 t2 hsz1 hk => ?_
      refine Calls.spliced_nil ?_
      refine enumZ_call hz fun h2 he hk2 => wpAny_pyIter_enum he ?_
      have I2 : Inv X pins σ H1 { s1 with heap := h2 } := I1.kept (t' := s1.toks) fun b o q => hk2 b o (hk b o q)
      have en : h1.objs.size ∉ [s1.heap.objs.size + 4, s1.heap.objs.size + 2, s1.heap.objs.size + 3, s1.heap.objs.size, s1.heap.objs.size + 1] := by
        rw [hsz1]; simp
      refine ⟨h1.objs.size, [h1.objs.size, s1.heap.objs.size + 4, s1.heap.objs.size + 2, s1.heap.objs.size + 3, s1.heap.objs.size, s1.heap.objs.size + 1], _, _, H1, rfl, I2,
        turn_enumZ (PySem.W.ktu_apart s1.heap.objs.size a b la lb) en, ⟨⟨.none, he⟩, ⟨_, _, hk2 _ _ hz, .inl rfl⟩, hk2 _ _ hTI, ⟨_, _, hk2 _ _ hTO⟩, t1.at fun o q => hk2 _ o q, t2.at fun o q => hk2 _ o q⟩, fun c hcm => ?_, q⟩
      have cs : c = h1.objs.size ∨ c = s1.heap.objs.size + 4 ∨ c = s1.heap.objs.size + 2 ∨ c = s1.heap.objs.size + 3 ∨ c = s1.heap.objs.size ∨ c = s1.heap.objs.size + 1 := by simpa using hcm
      have hle : s1.heap.objs.size ≤ c := by
        rw [hsz1] at cs
        rcases cs with r | r | r | r | r | r <;> rw [r]
        · exact Nat.le_add_right _ _
        · exact Nat.le_add_right _ _
        · exact Nat.le_add_right _ _
        · exact Nat.le_add_right _ _
        · exact Nat.le_refl _
        · exact Nat.le_add_right _ _
      exact I1.fpOk hle (I1.hok.fresh hle)
theorem itok_enumZ {K : PySem.W.Frag} {κ1 : Wd} {a b : Addr} {vs us : List V} {l m : List D} (hlm : l.length = m.length) (h : κ1.I a = some (.lst vs)) (h' : κ1.I b = some (.lst us)) (r : Rps K κ1.I l vs) (r' : Rps K κ1.I m us) : ItOk K (IteZ K a b) (enumD (zipD l m)) κ1 := by
  have hl := r.len
  have hl' := r'.len
  have sq : ∀ κ' : Wd, Ex κ1.I κ'.I → κ'.Ok K → SqL K κ'.H a vs ∧ SqL K κ'.H b us := fun κ' l o => ⟨SqL.of (o.ex _ _ (l _ _ h)), SqL.of (o.ex _ _ (l _ _ h'))⟩
  refine ⟨fun κ' l o i hi => ?_, fun κ' l o => ?_, fun κ' l o i d x H' hd y => ?_⟩
  · rw [enumD_len, zipD_len, ← hl, ← hl'] at hi
    exact ⟨vs, us, vs[i], us[i], (sq κ' l o).1, (sq κ' l o).2, List.getElem?_eq_getElem (by omega), List.getElem?_eq_getElem (by omega)⟩
  · exact ⟨vs, (sq κ' l o).1, by rw [enumD_len, zipD_len]; omega⟩
  · obtain ⟨p, T, v, u, rfl, hp, hT, hpT, rfl, hv, hu⟩ := y
    obtain ⟨e, he, rfl⟩ := enumD_get hd
    obtain ⟨e1, e2, he1, he2, rfl⟩ := zipD_get he
    obtain ⟨v1, q1, q2⟩ := r.get he1
    obtain ⟨u1, q3, q4⟩ := r'.get he2
    have z1 := hv vs (sq κ' l o).1
    have z2 := hu us (sq κ' l o).2
    rw [q1] at z1; cases z1
    rw [q3] at z2; cases z2
    have rps : Rps K κ'.I [e1, e2] [v, u] := Rps.cons (Rp.ex l e1 q2) (Rps.cons (Rp.ex l e2 q4) Rps.nil)
    obtain ⟨l2, o2, rp⟩ := new_tup o hp rps
    have rps2 : Rps K (upd κ'.I p (.tup [v, u])) [.int (i : Nat), .tup [e1, e2]] [.int (i : Nat), .ref p] := Rps.cons (show Rp K _ (.int _) _ from rfl) (Rps.cons rp Rps.nil)
    obtain ⟨l3, o3, rp3⟩ := new_tup (κ := ⟨upd κ'.I p (.tup [v, u]), upd κ'.H p (.tup [v, u]), κ'.th, κ'.c⟩) o2 (p := T) (by show upd κ'.H p _ T = none; rw [upd_ne (Ne.symm hpT)]; exact hT) rps2
    exact ⟨_, l2.trans l3, o3, rfl, rfl, rp3⟩
section
variable {Y : Cy} {ρ : Ρ} {c : List Cell}
theorem wi_enumZ {e e2 : Expr} {elts : List Expr} {kk : Nat} {tpos p pz pos posz : Pos} {Q : List D → List Cell → Prop} (hm : Y.X.mg "enumerate" = none) (hmz : Y.X.mg "zip" = none) (hg : Gl Y.X "enumerate") (hgz : Gl Y.X "zip")
    (hs0 : starEach [.Call (.Name "zip" pz) [e, e2] [] posz] Y.X.env = [(false, eval (.Call (.Name "zip" pz) [e, e2] [] posz) Y.X.env)]) (hs : starEach [e, e2] Y.X.env = (false, eval e Y.X.env) :: starEach [e2] Y.X.env)
    (hs2 : starEach [e2] Y.X.env = (false, eval e2 Y.X.env) :: starEach [] Y.X.env) (hpl : (backTo posz (starEach [e2] Y.X.env)).any (·.1) = false)
    (h : WE Y ρ c e fun w c1 => WE Y ρ c1 e2 fun w2 c2 => ∃ l m, w = .im (.lst l) ∧ w2 = .im (.lst m) ∧ l.length = m.length ∧ Q (enumD (zipD l m)) c2) : WI Y ρ c (.Tuple elts kk tpos) (.Call (.Name "enumerate" p) [.Call (.Name "zip" pz) [e, e2] [] posz] [] pos) Q := fun κ σ hc o r g Q' G => by
  have hA : WA Y ρ c [e, e2] fun ws c1 => ∃ l m, ws = [.im (.lst l), .im (.lst m)] ∧ l.length = m.length ∧ Q (enumD (zipD l m)) c1 :=
    wa_cons (h.mono fun w c1 h1 => wa_cons (h1.mono fun w2 c2 ⟨l, m, e1, e2, hl, q⟩ => wa_nil ⟨l, m, by rw [e1, e2], hl, q⟩) hs2) hs
  refine PI.w (pi_enumZ hg hm hgz hmz pa_w hs0 hs hpl) (hA.bind hc o r g fun vs ws κ1 l1 o1 r1 g1 rw1 ⟨l, m, e1, hlm, q⟩ => ?_)
  subst e1
  obtain ⟨v, rr, rfl, ⟨a, xs, rfl, g2, g3⟩, ⟨v2, rr2, rfl, ⟨b, ys, rfl, g4, g5⟩, hn⟩⟩ := rw1
  have hn : rr2 = [] := hn
  subst hn
  exact ⟨a, b, xs, ys, rfl, SqL.of (o1.ex _ _ g2), SqL.of (o1.ex _ _ g4), G _ _ κ1 l1 o1 (itok_enumZ hlm g2 g4 g3 g5) q⟩
end
end WL
/-! sorted(pairs, key=sum). -/
namespace WL
open PySem PySem.Spec PyProof.Rows L2
theorem ns_inj {h : Heap} {L : Addr} {m m' : Str → Option Value} (a : h.Ns L m) (b : h.Ns L m') : m = m' := by
  obtain ⟨o, es, ep, e1, e2, _, r⟩ := a
  obtain ⟨o', es', ep', e3, e4, _, r'⟩ := b
  rw [e1] at e3; cases e3
  rw [e2] at e4; cases e4
  funext x
  rw [← r, ← r']
/-- the objects of a heap but one -/
def allBut (h : Heap) (L : Addr) : List (Addr × Obj) := (List.range h.objs.size).filterMap fun b => if b = L then none else (h.get? b).map fun o => (b, o)
theorem mem_allBut {h : Heap} {L b : Addr} {o : Obj} : (b, o) ∈ allBut h L ↔ b ≠ L ∧ h.get? b = some o := by
  unfold allBut
  rw [List.mem_filterMap]
  constructor
  · rintro ⟨x, _, e⟩
    by_cases hx : x = L
    · rw [if_pos hx] at e; cases e
    · rw [if_neg hx] at e
      obtain ⟨o', ho, e2⟩ := Option.map_eq_some_iff.mp e
      cases e2
      exact ⟨hx, ho⟩
  · rintro ⟨h1, h2⟩
    exact ⟨b, List.mem_range.mpr (Heap.lt_size h2), by rw [if_neg h1, h2]; rfl⟩
theorem news_allBut {h : Heap} {L : Addr} : News {} L h (allBut h L) := fun p hp => by
  obtain ⟨b, o⟩ := p
  obtain ⟨h1, h2⟩ := mem_allBut.mp hp
  exact ⟨h2, h1, Heap.get?_none_of_le (Nat.zero_le _)⟩
/-- the sorting of a list at a, keys told of its values -/
theorem sort_run {X : Cx} {pins : List (Addr × Obj)} {s : Shared} {σ : L2.St} {H : Hp} {a : Addr} {its : List Value} {kz : List Int} {Q : VK} (hc : X.calm = true) (I : Inv X pins σ H s) (hl : s.heap.IsList a its.toArray) (hlen : kz.length = its.length) (hz : its.length ≤ sizeLine)
    (turn : ∀ (i : Nat) (v : Value) (k : Int), its[i]? = some v → kz[i]? = some k → ∃ t xs, v = .ref t ∧ s.heap.IsTuple t (intItems xs) ∧ preSum (numAt xs) xs.size = k)
    (q : ∀ (out : List Value) (D : Addr) (h' : Heap) (t' : Nat), KskOutSt false kz its out → H D = none → (∀ xs, Vals xs out → xs.length ≤ sizeLine → Inv X pins σ (upd H D (.lst xs)) { s with heap := h', toks := t' }) → EP X pins σ Q (.ref D) { s with heap := h', toks := t' }) :
    wpAny (model X.prog X.w) X.A (call (.builtin "sorted") [.ref a] [("key", .builtin "sum")]) (EP X pins σ Q) X.xe s := by
  obtain ⟨m, hn, _⟩ := id I.loc
  have F : Fr {} X.env.locals s.heap m := ⟨hn, fun b o e => absurd e (by rw [Heap.get?_none_of_le (Nat.zero_le _)]; exact fun z => nomatch z), Nat.zero_le _⟩
  refine ksk_sortedSt (b := false) F (news_allBut (L := X.env.locals)) hl hlen hz (PyProof.Rows.ksk_s1 _ _) (fun _ => PyProof.Rows.ksk_l1 _ _) (fun x => ksk_t4 "sum" x) (fun i v k hv hk h tk own F1 N1 => ?_) fun D h' tk out c F' N' hD hk => ?_
  · obtain ⟨t, xs, rfl, ht, hs⟩ := turn i v k hv hk
    have hh : X.A.in1.in1.handled = none := I.ok.hd hc
    obtain ⟨o, ho, hcl, n, hd⟩ := id ht
    have htL : t ≠ X.env.locals := fun z => by
      obtain ⟨o', es, ep, e1, e2, _⟩ := hn
      rw [z] at ho
      rw [ho] at e1; cases e1
      rw [hd] at e2; cases e2
    have hmem : (t, o) ∈ allBut s.heap X.env.locals ++ own := List.mem_append_left _ (mem_allBut.mpr ⟨htL, ho⟩)
    have ht2 : h.IsTuple t (intItems xs) := ⟨o, (N1 _ hmem).1, hcl, n, hd⟩
    refine PySem.W.ktm_sumG (s := { s with heap := h, toks := tk }) hh ht2 fun h2 tk2 t2 k2 => ?_
    rw [hs]
    refine KskEnd.intro (news' := allBut s.heap X.env.locals ++ own) ⟨?_, fun b o e => absurd e (by rw [Heap.get?_none_of_le (Nat.zero_le _)]; exact fun z => nomatch z), Nat.zero_le _⟩ (fun p hp => ⟨k2 _ _ (N1 p hp).1, (N1 p hp).2⟩) fun p hp => hp
    obtain ⟨o', es, ep, e1, e2⟩ := F1.ns
    exact ⟨o', es, ep, k2 _ _ e1, e2⟩
  · have old : ∀ b o, b ≠ X.env.locals → s.heap.get? b = some o → h'.get? b = some o := fun b o hb e => (N' (b, o) (List.mem_cons_of_mem _ (mem_allBut.mpr ⟨hb, e⟩))).1
    have hDL : D ≠ X.env.locals := (N' _ List.mem_cons_self).2.1
    have hDn : H D = none := by
      cases e : H D with
      | none => rfl
      | some u =>
        obtain ⟨o, ho⟩ := objOk_get (I.hok D u e)
        exact absurd (hD _ (mem_allBut.mpr ⟨hDL, ho⟩)) (Nat.lt_irrefl _)
    have hold : ∀ b o, s.heap.get? b = some o → b ≠ D := fun b o e z => by
      by_cases hb : b = X.env.locals
      · exact hDL (z ▸ hb)
      · have := hD _ (mem_allBut.mpr ⟨hb, e⟩)
        rw [z] at this
        exact Nat.lt_irrefl _ this
    refine q out.toList D h' tk hk hDn fun xs rx hxz => ?_
    have nL : ∀ b u, H b = some u → b ≠ X.env.locals := fun b u e z => by rw [z, I.free] at e; cases e
    refine I.step (g' := s.gens) (d' := s.drawn) (ch := []) (fun _ z => nomatch z) (fun b o hb _ _ e _ => old b o hb e) (fun b o hb _ _ e _ => ⟨o.slots, old b o hb e⟩) (fun b o _ e n => ?_) (fun b o _ e => ?_) (fun b xs e => ?_) (fun b o u e => ?_) (fun b ps e => ⟨#[], ?_⟩) (fun m' hm => ?_) (fun b u e => ?_) I.bare
    · rw [upd_ne (hold b o e)]; exact n
    · by_cases hb : b = X.env.locals
      · obtain ⟨o', _, _, e1, _⟩ := F'.ns
        exact ⟨o', by rw [hb]; exact e1⟩
      · exact ⟨o, old b o hb e⟩
    · rw [upd_ne (ne_of_none e hDn)]; exact e
    · rw [upd_ne (ne_of_none e hDn)]; exact e
    · rw [upd_ne (ne_of_none e hDn), e]; simp
    · rw [ns_inj hm hn]; exact F'.ns
    · by_cases hb : b = D
      · subst hb
        rw [upd_same] at e
        cases e
        exact ⟨hxz, out.toList, c, rx, by have := (N' _ List.mem_cons_self).1; simpa using this⟩
      · rw [upd_ne hb] at e
        refine (I.hok b u e).stay (fun c v hc q => old c v ?_ q) (fun c q => by rw [upd_ne (ne_of_none q hDn)]; exact q) fun c xs q => by rw [upd_ne (ne_of_none q hDn)]; exact q
        rcases hc with z | z
        · rw [z]; exact nL b u e
        · exact nL c _ z
end WL
namespace WL
open PySem PySem.Spec PyProof.Rows L2
/-- what sorted(xs, key=sum) asks: at a, tuples of two ints -/
def rSortSum (K : PySem.W.Frag) : List V → Hp → VK → Prop := fun vs H Q => ∃ (a : Addr) (ts : List (Addr × (Int × Int))), vs = [V.ref a] ∧ SqL K H a (ts.map fun t => V.ref t.1) ∧ ts.length ≤ 1000000 ∧ (∀ t ∈ ts, SqT K H t.1 [.int t.2.1, .int t.2.2]) ∧
  ∀ (us : List (Addr × (Int × Int))) (p : Addr), us.Perm ts → us.Pairwise (fun x y => x.2.1 + x.2.2 ≤ y.2.1 + y.2.2) → (∀ c : Int, us.filter (fun x => decide (x.2.1 + x.2.2 = c)) = ts.filter fun x => decide (x.2.1 + x.2.2 = c)) → H p = none → Q (.ref p) (upd H p (.lst (us.map fun t => V.ref t.1)))
theorem sort_sum {X : Cx} {pins : List (Addr × Obj)} {s : Shared} {σ : L2.St} {H : Hp} {vs : List V} {us : List Value} {Q : VK} (hc : X.calm = true) (I : Inv X pins σ H s) (r : Vals vs us) (h : rSortSum X.K vs H Q) :
    wpAny (model X.prog X.w) X.A (call (.builtin "sorted") us [("key", .builtin "sum")]) (EP X pins σ Q) X.xe s := by
  obtain ⟨a, ts, rfl, hl, hz, ht, q⟩ := h
  rw [Vals.ref1 r]
  obtain ⟨its, rv, pl, hzz⟩ := I.list hl
  clear hzz
  have hlen : its.length = ts.length := by rw [← rv.length, List.length_map]
  have hits : its = ts.map fun t => Value.ref t.1 := by
    clear pl hl hz ht q hlen
    induction ts generalizing its with
    | nil => cases rv; rfl
    | cons t ts ih =>
      rw [List.map_cons] at rv
      cases rv with
      | cons r1 r2 => rw [List.map_cons, ← ih _ r2]; rw [show _ = Value.ref t.1 from r1]
  have one : ∀ t ∈ ts, ∃ xs, s.heap.IsTuple t.1 (intItems xs) ∧ preSum (numAt xs) xs.size = t.2.1 + t.2.2 := fun t hm => by
    obtain ⟨js, rj, tj, _⟩ := I.tuple (ht t hm)
    cases rj with
    | cons r1 rj =>
      cases rj with
      | cons r2 rj =>
        cases rj
        obtain ⟨t1, rfl⟩ := r1
        obtain ⟨t2, rfl⟩ := r2
        have e : intItems #[(t.2.1, t1), (t.2.2, t2)] = #[Value.int t.2.1 t1, Value.int t.2.2 t2] := by simp [intItems]
        refine ⟨#[(t.2.1, t1), (t.2.2, t2)], by rw [e]; exact tj, ?_⟩
        show 0 + numAt _ 0 + numAt _ 1 = _
        simp [numAt]
  refine sort_run (kz := ts.map fun t => t.2.1 + t.2.2) hc I pl.isList (by rw [List.length_map, hlen]) (by rw [hlen, sizeLine_eq]; omega) (fun i v k hv hk => ?_) fun out D h' t' hk hD inv => ?_
  · rw [hits, List.getElem?_map] at hv
    obtain ⟨t, e1, rfl⟩ := Option.map_eq_some_iff.mp hv
    rw [List.getElem?_map, e1] at hk
    obtain ⟨xs, x1, x2⟩ := one t (List.mem_of_getElem? e1)
    exact ⟨t.1, xs, rfl, x1, x2.trans (Option.some.inj hk)⟩
  · obtain ⟨ps, hp, ho, hs, hf⟩ := hk
    have hzip : (ts.map fun t => t.2.1 + t.2.2).zip its = ts.map fun t => (t.2.1 + t.2.2, Value.ref t.1) := by
      rw [hits]
      clear hf hs hp one hits hlen rv pl hl hz ht q inv
      induction ts with
      | nil => rfl
      | cons t ts ih => rw [List.map_cons, List.map_cons, List.zip_cons_cons, ih]; rfl
    rw [hzip] at hp hf
    -- the data of a value
    have uniq : ∀ t ∈ ts, ∀ u ∈ ts, t.1 = u.1 → t = u := fun t h1 u h2 e => by
      have g1 := ht t h1
      have g2 := ht u h2
      rw [← e] at g2
      have := I.tuple_inj g1 g2
      obtain ⟨t1, t2, t3⟩ := t
      obtain ⟨u1, u2, u3⟩ := u
      simp only [List.cons.injEq, V.int.injEq, and_true] at this
      obtain ⟨rfl, rfl⟩ := this
      have e : t1 = u1 := e
      subst e; rfl
    have pick : ∀ p : Int × Value, ∃ t : Addr × (Int × Int), (∃ u ∈ ts, p = (u.2.1 + u.2.2, Value.ref u.1)) → t ∈ ts ∧ p = (t.2.1 + t.2.2, Value.ref t.1) := fun p => by
      by_cases hx : ∃ u ∈ ts, p = (u.2.1 + u.2.2, Value.ref u.1)
      · obtain ⟨u, h1, h2⟩ := hx
        exact ⟨u, fun _ => ⟨h1, h2⟩⟩
      · exact ⟨(0, 0, 0), fun z => absurd z hx⟩
    obtain ⟨φ, hφ⟩ := Classical.axiomOfChoice pick
    have inv1 : ∀ t ∈ ts, φ (t.2.1 + t.2.2, Value.ref t.1) = t := fun t hm => by
      obtain ⟨h1, h2⟩ := hφ (t.2.1 + t.2.2, Value.ref t.1) ⟨t, hm, rfl⟩
      have e : t.1 = (φ (t.2.1 + t.2.2, Value.ref t.1)).1 := by
        have := congrArg Prod.snd h2
        exact Value.ref.inj this
      exact (uniq t hm _ h1 e).symm
    have mem : ∀ p ∈ ps, φ p ∈ ts ∧ p = ((φ p).2.1 + (φ p).2.2, Value.ref (φ p).1) := fun p hm => by
      obtain ⟨t, h1, h2⟩ := List.mem_map.mp (hp.mem_iff.mp hm)
      exact hφ p ⟨t, h1, h2.symm⟩
    have hback : ∀ l : List (Addr × (Int × Int)), (∀ t ∈ l, t ∈ ts) → (l.map fun t => (t.2.1 + t.2.2, Value.ref t.1)).map φ = l := fun l hm => by
      rw [List.map_map]
      conv => rhs; rw [← List.map_id l]
      exact List.map_congr_left fun t h1 => inv1 t (hm t h1)
    have hout : out = (ps.map φ).map fun t => Value.ref t.1 := by
      rw [ho, List.map_map]
      exact List.map_congr_left fun p hm => congrArg Prod.snd (mem p hm).2
    have hpm : (ps.map φ).Perm ts := by
      have := hp.map φ
      rw [hback ts fun _ z => z] at this
      exact this
    have hfil : ∀ c : Int, (ps.map φ).filter (fun x => decide (x.2.1 + x.2.2 = c)) = ts.filter fun x => decide (x.2.1 + x.2.2 = c) := fun c => by
      have h1 := congrArg (List.map φ) (hf c)
      have e1 : (ps.filter fun p => p.1 == c).map φ = (ps.map φ).filter fun x => decide (x.2.1 + x.2.2 = c) := by
        rw [List.filter_map]
        congr 1
        apply List.filter_congr
        intro p hm
        have := congrArg Prod.fst (mem p hm).2
        simp only [Function.comp] at this ⊢
        rw [this]; rfl
      have e2 : ((ts.map fun t => (t.2.1 + t.2.2, Value.ref t.1)).filter fun p => p.1 == c).map φ = ts.filter fun x => decide (x.2.1 + x.2.2 = c) := by
        rw [List.filter_map]
        have : (ts.filter ((fun p => p.1 == c) ∘ fun t => (t.2.1 + t.2.2, Value.ref t.1))) = ts.filter fun x => decide (x.2.1 + x.2.2 = c) := by
          apply List.filter_congr
          intro t _
          rfl
        rw [this]
        exact hback _ fun t hm => (List.mem_filter.mp hm).1
      rw [e1, e2] at h1
      exact h1
    have hpw : (ps.map φ).Pairwise fun x y => x.2.1 + x.2.2 ≤ y.2.1 + y.2.2 := by
      rw [List.pairwise_map]
      refine List.Pairwise.imp_of_mem (fun {p} {p'} h1 h2 h3 => ?_) hs
      have e1 := congrArg Prod.fst (mem p h1).2
      have e2 := congrArg Prod.fst (mem p' h2).2
      have h3 : p.1 ≤ p'.1 := h3
      simp only at e1 e2
      rw [e1, e2] at h3
      exact h3
    have hvals : ∀ l : List (Addr × (Int × Int)), Vals (l.map fun t => V.ref t.1) (l.map fun t => Value.ref t.1) := fun l => by
      induction l with
      | nil => exact .nil
      | cons t l ih => exact .cons rfl ih
    have hn : ((ps.map φ).map fun t => V.ref t.1).length ≤ sizeLine := by rw [List.length_map, hpm.length_eq, sizeLine_eq]; omega
    exact ⟨.ref D, _, inv _ (by rw [hout]; exact hvals _) hn, rfl, q _ D hpm hpw hfil hD⟩
end WL
namespace WL
open PySem PySem.Spec PyProof.Rows L2
theorem pe_sortSum {X : Cx} {e : Expr} {te : TE} {p kp kpos pos : Pos} (hc : X.calm = true) (hg : Gl X "sorted") (hm : X.mg "sorted" = none) (hgs : Gl X "sum") (hms : X.mg "sum" = none) (he : PE X e te)
    (h1 : backTo pos (starEach [e] X.env) = (false, eval e X.env) :: backTo pos (starEach [] X.env)) (hs : starEach [e] X.env = (false, eval e X.env) :: starEach [] X.env) :
    PE X (.Call (.Name "sorted" p) [e] [⟨some "key", .Name "sum" kp, kpos⟩] pos) (fun σ H Q => te σ H fun x H1 => rSortSum X.K [x] H1 Q) := by
  refine ⟨fun pins s σ H Q I h => ?_⟩
  refine wpAny_Call_Name_kw (ld_blt I hg hm boot_sorted ?_)
  refine PyProof.Rows.callWith_kw (thn ((pa_cons he pa_nil hs).run pos pins s σ H (fun xs H1 => rSortSum X.K xs H1 Q) I h) fun us s1 ⟨vs, H1, I1, r1, q1⟩ => ?_) h1 (by rw [h1]; rfl) (by rfl) (by rfl)
  show wpAny _ _ (evalAll ((do let v ← eval (.Name "sum" kp) X.env; standAt pos; pure v) :: ([] : List (Option Str × Sem Value)).map (·.2))) _ _ s1
  refine wpAny_evalAll_cons (wpAny_bind (ld_blt I1 hgs hms boot_sum (wpAny_bind (wpAny_standAt (wpAny_pure ?_)))))
  refine wpAny_evalAll_nil ?_
  exact sort_sum hc I1 r1 q1
def prD (x : Int × Int) : D := .tup [.int x.1, .int x.2]
theorem rps_pairs {K : PySem.W.Frag} {I : Hp} : ∀ {ds : List (Int × Int)} {xs : List V}, Rps K I (ds.map prD) xs → ∃ ts : List (Addr × (Int × Int)), xs = ts.map (fun t => V.ref t.1) ∧ ts.map (·.2) = ds ∧ ∀ t ∈ ts, SqT K I t.1 [.int t.2.1, .int t.2.2]
  | [], xs, h => ⟨[], h, rfl, by simp⟩
  | d :: ds, _, ⟨v, r, h1, h2, h3⟩ => by
    obtain ⟨ts, e1, e2, e3⟩ := rps_pairs h3
    obtain ⟨a, vs, rfl, g1, v1, r1, rfl, g2, v2, r2, rfl, g3, g4⟩ := h2
    have g4 : r2 = [] := g4
    have g2 : v1 = .int d.1 := g2
    have g3 : v2 = .int d.2 := g3
    subst g4 g2 g3
    refine ⟨(a, d) :: ts, by rw [h1, e1]; rfl, by rw [List.map_cons, e2], fun t ht => ?_⟩
    rcases List.mem_cons.mp ht with rfl | ht
    · exact g1
    · exact e3 t ht
theorem rps_of_pairs {K : PySem.W.Frag} {I : Hp} : ∀ {ts : List (Addr × (Int × Int))}, (∀ t ∈ ts, SqT K I t.1 [.int t.2.1, .int t.2.2]) → Rps K I ((ts.map (·.2)).map prD) (ts.map fun t => V.ref t.1)
  | [], _ => Rps.nil
  | t :: ts, h => Rps.cons ⟨t.1, _, rfl, h t List.mem_cons_self, Rps.cons (show Rp K I (.int _) _ from rfl) (Rps.cons (show Rp K I (.int _) _ from rfl) Rps.nil)⟩ (rps_of_pairs fun u hu => h u (List.mem_cons_of_mem _ hu))
section
variable {Y : Cy} {ρ : Ρ} {c : List Cell} {Q : KQ}
theorem we_sortSum {e : Expr} {p kp kpos pos : Pos} (hm : Y.X.mg "sorted" = none) (hms : Y.X.mg "sum" = none) (hcm : Y.X.calm = true) (hg : Gl Y.X "sorted") (hgs : Gl Y.X "sum")
    (h1 : backTo pos (starEach [e] Y.X.env) = (false, eval e Y.X.env) :: backTo pos (starEach [] Y.X.env)) (hs : starEach [e] Y.X.env = (false, eval e Y.X.env) :: starEach [] Y.X.env)
    (h : WE Y ρ c e fun w c1 => ∃ ds : List (Int × Int), w = .im (.lst (ds.map prD)) ∧ ds.length ≤ 1000000 ∧ ∀ out : List (Int × Int), out.Pairwise (fun x y => x.1 + x.2 ≤ y.1 + y.2) → (∀ c : Int, out.filter (fun x => decide (x.1 + x.2 = c)) = ds.filter fun x => decide (x.1 + x.2 = c)) → Q (.im (.lst (out.map prD))) c1) :
    WE Y ρ c (.Call (.Name "sorted" p) [e] [⟨some "key", .Name "sum" kp, kpos⟩] pos) Q := fun κ σ hc o r g Q' G =>
  PE.w (pe_sortSum hcm hg hm hgs hms pe_w h1 hs) (h.bind hc o r g fun v w κ1 l1 o1 r1 g1 rw1 ⟨ds, ew, hz, q⟩ => by
    subst ew
    obtain ⟨a, xs, rfl, g2, g3⟩ := rw1
    obtain ⟨ts, rfl, e2, e3⟩ := rps_pairs g3
    refine ⟨a, ts, rfl, SqL.of (o1.ex _ _ g2), by rw [← e2] at hz; rw [List.length_map] at hz; exact hz, fun t ht => ex_t o1.ex (e3 t ht), fun us p hp hs hf hn => ?_⟩
    have mu : ∀ t ∈ us, SqT Y.X.K κ1.I t.1 [.int t.2.1, .int t.2.2] := fun t ht => e3 t (hp.mem_iff.mp ht)
    obtain ⟨l2, o2, rp⟩ := new_lst o1 hn (rps_of_pairs mu)
    refine G (.ref p) (.im (.lst ((us.map fun x : Addr × (Int × Int) => x.2).map prD))) ⟨_, _, _, _⟩ (l1.trans l2) o2 rp (q _ (List.pairwise_map.mpr hs) fun c => ?_)
    have := congrArg (List.map fun x : Addr × (Int × Int) => x.2) (hf c)
    rw [← e2, List.filter_map, List.filter_map]
    exact this)
end
end WL
/-! A comprehension of two clauses. -/
namespace WL
open PySem PySem.Spec PyProof.Rows L2
section
variable {Y : Cy} {ρ : Ρ} {c : List Cell} {Q : KQ}
/-- what a comprehension of two clauses asks: each turn's row, nothing changes -/
def Lc2Ask (Y : Cy) (ρ : Ρ) (scope : Scope) (vs vs1 : List Nat) (t : Tgt) (tg1 iter1 : Expr) (t1 : Tgt) (elt : Expr) (QL : List D → List Cell → Prop) (ds : List D) (c1 : List Cell) : Prop :=
  ∃ gs : List (List D), gs.length = ds.length ∧ gs.flatten.length ≤ 1000000 ∧
    (∀ (i : Nat) (d : D) (row : List D), ds[i]? = some d → gs[i]? = some row → t.fits d ∧ ∀ b : Blk, WI (Y.blk scope b) (t.bind (wipeW ρ vs) d) c1 tg1 iter1 fun es c2 => c2 = c1 ∧ es.length = row.length ∧
      ∀ (j : Nat) (e r : D), es[j]? = some e → row[j]? = some r → t1.fits e ∧ ∀ b : Blk, WE (Y.blk scope b) (t1.bind (wipeW (t.bind (wipeW ρ vs) d) vs1) e) c1 elt fun w c3 => w = .im r ∧ c3 = c1) ∧ QL gs.flatten c1
theorem flat_take {α : Type} {gs : List (List α)} {i : Nat} {row : List α} (h : gs[i]? = some row) : (gs.take (i + 1)).flatten = (gs.take i).flatten ++ row := by
  rw [take_succ_get h, List.flatten_append]; simp
theorem flat_le {α : Type} {gs : List (List α)} {i : Nat} {row : List α} (h : gs[i]? = some row) : (gs.take i).flatten.length + row.length ≤ gs.flatten.length := by
  have e : gs.flatten = (gs.take (i + 1)).flatten ++ (gs.drop (i + 1)).flatten := by rw [← List.flatten_append, List.take_append_drop]
  rw [e, flat_take h, List.length_append, List.length_append]; omega
theorem REnv.lw {K : PySem.W.Frag} {κ κ' : Wd} {σ : L2.St} {ρ : Ρ} (h : REnv K κ σ ρ) (e : Ex κ.I κ'.I) (t : ∀ (n : Nat) a, κ.th[n]? = some a → κ'.th[n]? = some a) : REnv K κ' σ ρ := ⟨h.len, fun i w hi => by
  obtain ⟨v, h1, h2⟩ := h.at_ i w hi
  exact ⟨v, h1, h2.mono e t⟩⟩
theorem lc2_sem {elt tg iter tg1 iter1 : Expr} {scope : Scope} {vs vs1 : List Nat} {t t1 : Tgt} {QL : List D → List Cell → Prop} {κ : Wd} {σ : L2.St} (hv : ∀ i ∈ t.slots, i ∈ vs) (hv1 : ∀ i ∈ t1.slots, i ∈ vs1)
    (h : WI Y ρ c tg iter (Lc2Ask Y ρ scope vs vs1 t tg1 iter1 t1 elt QL)) (hc : κ.c = c) (o : κ.Ok Y.X.K) (r : REnv Y.X.K κ σ ρ) (g : GoX Y κ σ ρ) {Q' : VK}
    (G : ∀ p xs l κ', κ.le κ' → κ'.Ok Y.X.K → Side κ' p (.lst xs) → κ.H p = none → Rps Y.X.K κ'.I l xs → QL l κ'.c → Q' (.ref p) κ'.H) :
    tLc2 (wI Y.X tg iter) (t.g Y.X.K) (fun σ H Q => ∀ b : Blk, wTs (Y.blk scope b).X [] σ H Q) (fun σ H R => ∀ b : Blk, wI (Y.blk scope b).X tg1 iter1 σ H R) (t1.g Y.X.K) (fun σ H Q => ∀ b : Blk, wTs (Y.blk scope b).X [] σ H Q)
      (fun σ H Q => ∀ b : Blk, wE (Y.blk scope b).X elt σ H Q) vs vs1 σ κ.H Q' := by
  refine h κ σ hc o r g _ fun J ds κ1 l1 o1 it ⟨gs, hgl, hz, turn, fin⟩ => fun Dl hD => ?_
  have hD0 : κ.H Dl = none := by
    cases q : κ.H Dl with
    | none => rfl
    | some x => exact absurd hD (l1.hd Dl (by rw [q]; intro z; cases z))
  refine ⟨fun i m H' => m = ds.length - i ∧ i ≤ ds.length ∧ ∃ κ' xs, κ1.le κ' ∧ κ'.Ok Y.X.K ∧ Side κ' Dl (.lst xs) ∧ Rps Y.X.K κ'.I (gs.take i).flatten xs ∧ κ'.c = κ1.c ∧ κ'.H = H',
    ⟨ds.length, by simp, Nat.zero_le _, ⟨κ1.I, upd κ1.H Dl (.lst []), κ1.th, κ1.c⟩, [], Wd.aux_le hD, o1.aux hD, Side.new o1 hD, by rw [List.take_zero]; exact Rps.nil, rfl, rfl⟩, ?_⟩
  rintro i m H' ⟨rfl, hi, κ', xs, l', o', s', ra, cc, rfl⟩
  by_cases hlt : i < ds.length
  · have hd : ds[i]? = some ds[i] := List.getElem?_eq_getElem hlt
    have hgi : i < gs.length := by omega
    have hgr : gs[i]? = some gs[i] := List.getElem?_eq_getElem hgi
    obtain ⟨hf, hb⟩ := turn i _ _ hd hgr
    generalize gs[i] = row at hgr hb
    have hfl := flat_le hgr
    refine .inr ⟨it.go κ' l'.ii o' i hlt, fun H2 => ∃ κ2 xs, κ1.le κ2 ∧ κ2.Ok Y.X.K ∧ Side κ2 Dl (.lst xs) ∧ Rps Y.X.K κ2.I (gs.take (i + 1)).flatten xs ∧ κ2.c = κ1.c ∧ κ2.H = H2, fun H2 ⟨κ2, xs2, a1, a2, a3, a4, a5, a6⟩ => ⟨ds.length - (i + 1), by omega, rfl, hlt, κ2, xs2, a1, a2, a3, a4, a5, a6⟩, fun x H2 y => ?_⟩
    obtain ⟨κ2, l2, o2, rfl, ec, rp⟩ := it.yld κ' l'.ii o' i _ x H2 hd y
    have r2 : REnv Y.X.K κ2 (L2.wipe σ vs) (wipeW ρ vs) := (r.le ((l1.trans l').trans l2)).wipe vs
    refine Tgt.go hf o2 rp r2 fun σ3 hw r3 => ⟨by rw [hw vs hv, wipe_wipe], fun b => ?_⟩
    refine PTs.w pts_nil ?_
    dsimp only [tYes]
    rw [if_pos rfl]
    intro b1
    refine hb b1 κ2 σ3 (by rw [ec, cc]) o2 r3 GoX.blk _ fun J1 es κ3 l3 o3 it1 ⟨c3, hel, inner⟩ => ?_
    have s3 := (s'.le l2).le l3
    have ra3 := Rps.ex (l2.trans l3).ii _ ra
    refine ⟨fun j k H4 => k = row.length - j ∧ j ≤ row.length ∧ ∃ κ4 xs, κ1.le κ4 ∧ Ex κ3.I κ4.I ∧ (∀ (n : Nat) a, κ3.th[n]? = some a → κ4.th[n]? = some a) ∧ κ4.Ok Y.X.K ∧ Side κ4 Dl (.lst xs) ∧ Rps Y.X.K κ4.I ((gs.take i).flatten ++ row.take j) xs ∧ κ4.c = κ1.c ∧ κ4.H = H4,
      ⟨row.length, by simp, Nat.zero_le _, κ3, xs, (l'.trans l2).trans l3, Ex.refl _, fun _ _ h => h, o3, s3, by rw [List.take_zero, List.append_nil]; exact ra3, c3, rfl⟩, ?_⟩
    rintro j k H4 ⟨rfl, hj, κ4, xs4, l4, x4, t4, o4, s4, ra4, cc4, rfl⟩
    by_cases hjl : j < row.length
    · have hje : j < es.length := by omega
      have he : es[j]? = some es[j] := List.getElem?_eq_getElem hje
      have hr : row[j]? = some row[j] := List.getElem?_eq_getElem hjl
      obtain ⟨hf1, hb1⟩ := inner j _ _ he hr
      refine .inr ⟨it1.go κ4 x4 o4 j hje, fun H5 => ∃ κ5 xs, κ1.le κ5 ∧ Ex κ3.I κ5.I ∧ (∀ (n : Nat) a, κ3.th[n]? = some a → κ5.th[n]? = some a) ∧ κ5.Ok Y.X.K ∧ Side κ5 Dl (.lst xs) ∧ Rps Y.X.K κ5.I ((gs.take i).flatten ++ row.take (j + 1)) xs ∧ κ5.c = κ1.c ∧ κ5.H = H5,
        fun H5 ⟨κ5, xs5, a1, a2, a3, a4, a5, a6, a7, a8⟩ => ⟨row.length - (j + 1), by omega, rfl, hjl, κ5, xs5, a1, a2, a3, a4, a5, a6, a7, a8⟩, fun x1 H5 y1 => ?_⟩
      obtain ⟨κ5, l5, o5, rfl, ec5, rp5⟩ := it1.yld κ4 x4 o4 j _ x1 H5 he y1
      have r5 : REnv Y.X.K κ5 (L2.wipe σ3 vs1) (wipeW (t.bind (wipeW ρ vs) ds[i]) vs1) := REnv.wipe (REnv.lw (REnv.lw (r3.le l3) x4 t4) l5.ii l5.th) vs1
      refine Tgt.go (Y := Y) hf1 o5 rp5 r5 fun σ6 hw6 r6 => ⟨by rw [hw6 vs1 hv1, wipe_wipe], fun b2 => ?_⟩
      refine PTs.w pts_nil ?_
      dsimp only [tYes]
      rw [if_pos rfl]
      intro b3
      refine hb1 b3 κ5 σ6 (by rw [ec5, cc4]) o5 r6 GoX.blk _ fun v w κ6 l6 o6 rw6 ⟨ew, ec6⟩ => ?_
      subst ew
      have s6 := (s4.le l5).le l6
      refine ⟨xs4, s6.h, by rw [ra4.len, List.length_append, List.length_take]; exact Nat.lt_of_lt_of_le (show _ < 1000001 by omega) (by decide), ?_⟩
      obtain ⟨o7, s7⟩ := o6.side (u' := .lst (xs4 ++ [v])) s6
      refine ⟨⟨κ6.I, upd κ6.H Dl (.lst (xs4 ++ [v])), κ6.th, κ6.c⟩, xs4 ++ [v], Wd.le.side ((l4.trans l5).trans l6) s6 hD, (x4.trans l5.ii).trans l6.ii, fun n a h => l6.th n a (l5.th n a (t4 n a h)), o7, s7, ?_, ec6, rfl⟩
      rw [take_succ_get hr, ← List.append_assoc]
      exact Rps.snoc (Rps.ex (l5.trans l6).ii _ ra4) rw6
    · have e : j = row.length := by omega
      subst e
      refine .inl ⟨by rw [← hel]; exact it1.stop κ4 x4 o4, κ4, xs4, l4, o4, s4, ?_, cc4, rfl⟩
      rw [flat_take hgr]
      rw [List.take_length] at ra4
      exact ra4
  · have e : i = ds.length := by omega
    subst e
    refine .inl ⟨it.stop κ' l'.ii o', G Dl xs _ κ' (l1.trans l') o' s' hD0 ra ?_⟩
    rw [← hgl, List.take_length, cc]; exact fin
theorem we_lc2 {elt tg iter tg1 iter1 : Expr} {scope : Scope} {own : List (Str × Nat)} {vs1 : List Nat} {pos : Pos} (t t1 : Tgt) (hcm : Y.X.calm = true) (hN : Y.X.N.Nodup) (ok : BlkOk Y.X.N Y.X.env.scope scope own) (hv : ∀ i ∈ t.slots, i ∈ own.map (·.2)) (hv1 : ∀ i ∈ t1.slots, i ∈ vs1) (hv2 : ∀ i ∈ vs1, i ∈ own.map (·.2))
    (hg : ∀ b : Blk, PG (Y.blk scope b).X tg (t.g Y.X.K)) (hg1 : ∀ b : Blk, PG (Y.blk scope b).X tg1 (t1.g Y.X.K)) (h : WI Y ρ c tg iter (Lc2Ask Y ρ scope (own.map (·.2)) vs1 t tg1 iter1 t1 elt fun l c' => Q (.im (.lst l)) c')) (hs : ∀ x, foldedSetIterable iter Y.X.env x = pure x) (hs1 : ∀ env x, foldedSetIterable iter1 env x = pure x) :
    WE Y ρ c (.ListComp elt [⟨tg, iter, [], 0⟩, ⟨tg1, iter1, [], 0⟩] scope pos) Q := fun κ σ hc o r g Q' G =>
  PE.w (pe_lc2 hcm hN pi_w ok hv2 (fun s H C cl fp => hg ⟨s, H, C, cl, fp⟩) (fun s H C cl fp => ⟨fun pins s1 σ1 H1 Q1 I1 h1 => h1 ⟨s, H, C, cl, fp⟩ pins s1 I1⟩) (fun s H C cl fp => ⟨fun pins s1 σ1 H1 R1 I1 h1 => h1 ⟨s, H, C, cl, fp⟩ pins s1 I1⟩) (fun s H C cl fp => hg1 ⟨s, H, C, cl, fp⟩)
      (fun s H C cl fp => ⟨fun pins s1 σ1 H1 Q1 I1 h1 => h1 ⟨s, H, C, cl, fp⟩ pins s1 I1⟩) (fun s H C cl fp => ⟨fun pins s1 σ1 H1 Q1 I1 h1 => h1 ⟨s, H, C, cl, fp⟩ pins s1 I1⟩) hs hs1)
    (lc2_sem hv hv1 h hc o r g fun p xs l1 κ' l' o' s' hp rl q => by
      obtain ⟨o2, ee⟩ := o'.adopt s'
      exact G (.ref p) (.im (.lst l1)) ⟨upd κ'.I p (.lst xs), κ'.H, κ'.th, κ'.c⟩ (l'.adopt s' hp) o2 ⟨p, xs, rfl, upd_same, Rps.ex ee l1 rl⟩ q)
end
end WL
/-! Starred items. -/
namespace WL
open PySem PySem.Spec PyProof.Rows L2
section
variable {Y : Cy} {ρ : Ρ} {c : List Cell}
theorem RWs.ims_app {K : PySem.W.Frag} {I : Hp} {th : List Addr} : ∀ {l : List D} {vs : List V} {ws : List W} {us : List V}, Rps K I l vs → RWs K I th ws us → RWs K I th (l.map W.im ++ ws) (vs ++ us)
  | [], _, ws, us, h, g => by rw [show _ = [] from h]; exact g
  | d :: ds, _, ws, us, ⟨v, r, h1, h2, h3⟩, g => by rw [h1]; exact ⟨v, _, rfl, h2, RWs.ims_app h3 g⟩
theorem wa_star {e : Expr} {es : List Expr} {p : Pos} {QA : List W → List Cell → Prop} (h : WE Y ρ c e fun w c1 => ∃ l, (w = .im (.tup l) ∨ w = .im (.lst l)) ∧ WA Y ρ c1 es fun ws c2 => QA (l.map W.im ++ ws) c2)
    (hs : starEach (.Starred e p :: es) Y.X.env = (true, eval e Y.X.env) :: starEach es Y.X.env) : WA Y ρ c (.Starred e p :: es) QA := fun κ σ hc o r g Q' G =>
  PA.w (StX.pa_star pe_w pa_w hs) (h.bind hc o r g fun v1 w1 κ1 l1 o1 r1 g1 rw1 ⟨l, ew, q1⟩ => by
    have fin : ∀ a vs, (SqT Y.X.K κ1.H a vs ∨ SqL Y.X.K κ1.H a vs) → Rps Y.X.K κ1.I l vs → v1 = .ref a → ∃ (a : Addr) (xs : List V), v1 = V.ref a ∧ (SqT Y.X.K κ1.H a xs ∨ SqL Y.X.K κ1.H a xs) ∧ wA Y.X es σ κ1.H fun vs H => Q' (xs ++ vs) H := fun a vs hx hr e =>
      ⟨a, vs, e, hx, q1.bind rfl o1 r1 g1 fun us ws κ2 l2 o2 r2 g2 rws q2 => G (vs ++ us) (l.map W.im ++ ws) κ2 (l1.trans l2) o2 (RWs.ims_app (Rps.ex l2.ii l hr) rws) q2⟩
    rcases ew with rfl | rfl
    · obtain ⟨a, vs, rfl, g2, g3⟩ := rw1
      exact fin a vs (.inl (ex_t o1.ex g2)) g3 rfl
    · obtain ⟨a, vs, rfl, g2, g3⟩ := rw1
      exact fin a vs (.inr (SqL.of (o1.ex _ _ g2))) g3 rfl)
theorem ims_app : ∀ {l : List D} {ws : List W} {ds : List D}, ims ws = some ds → ims (l.map W.im ++ ws) = some (l ++ ds)
  | [], _, _, h => h
  | d :: l, ws, ds, h => by
    show (ims (l.map W.im ++ ws)).map (d :: ·) = some (d :: (l ++ ds))
    rw [ims_app h]; rfl
end
end WL
namespace WL
theorem clo_app1 {c : List Cell} {l : List D} (h : clo c.length c = true) : clo (c ++ [Cell.lst l]).length (c ++ [Cell.lst l]) = true := clo_lst1 h
end WL
/-! Methods of texts; methods of own classes. -/
namespace WL
open PySem PySem.Spec PyProof.Rows L2
section
variable {Y : Cy} {ρ : Ρ} {c : List Cell} {Q : KQ} {w : W}
theorem wc_strS {x : Str} (q : Q (.im (.str x)) c) : WC Y (.type "str") [.im (.str x)] c Q := wc_1 SkE.call_str_str fun κ v Q' e o rv G => ⟨x, by rw [show v = .str x from rv], G (.str x) (.im (.str x)) κ (.refl _) o rfl (by rw [e]; exact q)⟩
theorem wc_intS {x : Str} {n : Int} (h : PySem.intText? x = some n) (hz : x.length ≤ 640) (q : Q (.im (.int n)) c) : WC Y (.type "int") [.im (.str x)] c Q := wc_1 call_int_str fun κ v Q' e o rv G => ⟨x, n, by rw [show v = .str x from rv], h, hz, G (.int n) (.im (.int n)) κ (.refl _) o rfl (by rw [e]; exact q)⟩
def StrW (w : W) : Prop := ∃ x, w = .im (.str x)
theorem we_sm {o e : Expr} {name : Str} {apos cpos : Pos} {id : String} (slot : Slot "str" name id) (hty : typeOf (.builtin id) = pure (.type "method_descriptor"))
    (hbase : attributeBase o name Y.X.env (eval o Y.X.env) = eval o Y.X.env)
    (hfew : ((backTo cpos (starEach [e] Y.X.env)).all (fun x => !x.1) && (backToKw cpos (keywordEach [] Y.X.env)).all (fun x => x.1.isSome)
      && decide ([e].length + ([] : List Keyword).length + (if ([] : List Keyword).isEmpty then 0 else 1) < 30)) = true)
    (hline : (apos.endLine == cpos.line) = true) (hs : starEach [e] Y.X.env = (false, eval e Y.X.env) :: starEach [] Y.X.env)
    (h : WE Y ρ c o fun w c1 => StrW w ∧ WA Y ρ c1 [e] fun ws c2 => WM Y id w ws c2 Q) :
    WE Y ρ c (.Call (.Attribute o name apos) [e] [] cpos) Q :=
  we_bm (Y := Y) F.plainAttrs_str slot hty (h.mono fun w c1 ⟨⟨x, hx⟩, q⟩ => ⟨.str x, by rw [hx]; exact .im, .inr ⟨rfl, x, rfl⟩, q⟩) hbase hfew hline hs (by rfl)
/-! ### methods of own classes -/
def MethW (c : List Cell) (w : W) (C : Addr) (m : Str) : Prop := ∃ ns ws, Ob c w C ns ws ∧ m ∉ ns
theorem Ob.no {c : List Cell} {w : W} {C : Addr} {ns : List Str} {ws : List W} {m : Str} (hm : m ∉ ns) {κ : Wd} {K : PySem.W.Frag} {v : V} (h : Ob c w C ns ws) (hc : κ.c = c) (o : κ.Ok K) (r : RW K κ.I κ.th w v) : ∃ a dx fs, v = .ref a ∧ κ.H a = some (.ins C dx fs) ∧ fs.lookup m = none := by
  obtain ⟨a, dx, vs, rfl, h1, h2, h3⟩ := h.at_ hc o r
  refine ⟨a, dx, _, rfl, h1, ?_⟩
  clear h1 h h3
  induction ns generalizing vs with
  | nil => rfl
  | cons n ns ih =>
    cases vs with
    | nil => cases h2
    | cons u us =>
      rw [List.zip_cons_cons, lookup_neg (fun z => hm (by rw [z]; exact List.mem_cons_self))]
      exact ih (fun z => hm (List.mem_cons_of_mem _ z)) us (by simpa using h2)
end
end WL
/-! An attribute counted up; enumerate over a list; == of an own class. -/
namespace WL
open PySem PySem.Spec PyProof.Rows L2
section
variable {Y : Cy} {ρ : Ρ} {c : List Cell} {Q : KQ} {n0 : Nat} {Z : EndsW}
theorem itok_enumL {K : PySem.W.Frag} {κ1 : Wd} {a : Addr} {vs : List V} {ds : List D} (h : κ1.I a = some (.lst vs)) (r : Rps K κ1.I ds vs) : ItOk K (Ite K a) (enumD ds) κ1 := by
  have hl := r.len
  have sq : ∀ κ' : Wd, Ex κ1.I κ'.I → κ'.Ok K → SqL K κ'.H a vs := fun κ' l o => SqL.of (o.ex _ _ (l _ _ h))
  refine ⟨fun κ' l o i hi => ?_, fun κ' l o => ?_, fun κ' l o i d x H' hd y => ?_⟩
  · rw [enumD_len, ← hl] at hi
    exact ⟨vs, vs[i], sq κ' l o, List.getElem?_eq_getElem hi⟩
  · exact ⟨vs, sq κ' l o, by rw [enumD_len]; omega⟩
  · obtain ⟨T, v, rfl, hT, rfl, hv⟩ := y
    obtain ⟨e, he, rfl⟩ := enumD_get hd
    obtain ⟨u, g1, g2⟩ := r.get he
    have q := hv vs (sq κ' l o)
    rw [g1] at q; cases q
    have rps : Rps K κ'.I [.int (i : Nat), e] [.int (i : Nat), v] := Rps.cons rfl (Rps.cons (Rp.ex l e g2) Rps.nil)
    obtain ⟨l2, o2, rp⟩ := new_tup o hT rps
    exact ⟨_, l2, o2, rfl, rfl, rp⟩
theorem wi_enumL {e : Expr} {elts : List Expr} {kk : Nat} {tpos p pos : Pos} {Q : List D → List Cell → Prop} (hm : Y.X.mg "enumerate" = none) (hg : Gl Y.X "enumerate") (hs : starEach [e] Y.X.env = [(false, eval e Y.X.env)])
    (h : WE Y ρ c e fun w c1 => ∃ ds, w = .im (.lst ds) ∧ Q (enumD ds) c1) : WI Y ρ c (.Tuple elts kk tpos) (.Call (.Name "enumerate" p) [e] [] pos) Q := fun κ σ hc o r g Q' G => by
  have hA : WA Y ρ c [e] fun ws c1 => ∃ ds, ws = [.im (.lst ds)] ∧ Q (enumD ds) c1 := wa_cons (h.mono fun w c1 ⟨ds, e1, q⟩ => wa_nil ⟨ds, by rw [e1], q⟩) (by rw [hs]; rfl)
  refine PI.w (pi_enum hg hm pa_w hs) (hA.bind hc o r g fun vs ws κ1 l1 o1 r1 g1 rw1 ⟨ds, e1, q⟩ => ?_)
  subst e1
  obtain ⟨v, rr, rfl, ⟨a, xs, rfl, g2, g3⟩, hn⟩ := rw1
  have hn : rr = [] := hn
  subst hn
  exact ⟨a, xs, rfl, SqL.of (o1.ex _ _ g2), G _ _ κ1 l1 o1 (itok_enumL g2 g3) q⟩
/-! ### == of an own class -/
/-! ### isinstance of an own class -/
end
end WL
/-! Loops over a list that may be changed later, and is not changed in the loop. -/
namespace WL
open PySem PySem.Spec PyProof.Rows L2
structure ItOkC (K : PySem.W.Frag) (J : It) (ds : List D) (n : Nat) (l : List D) (κ1 : Wd) : Prop where
  go : ∀ κ' : Wd, κ1.le κ' → κ'.Ok K → κ'.c[n]? = some (.lst l) → ∀ i, i < ds.length → J.go i κ'.H
  stop : ∀ κ' : Wd, κ1.le κ' → κ'.Ok K → κ'.c[n]? = some (.lst l) → J.stop ds.length κ'.H
  yld : ∀ κ' : Wd, κ1.le κ' → κ'.Ok K → κ'.c[n]? = some (.lst l) → ∀ i d x H', ds[i]? = some d → J.yld i κ'.H x H' → ∃ κ2, κ'.le κ2 ∧ κ2.Ok K ∧ κ2.H = H' ∧ κ2.c = κ'.c ∧ Rp K κ2.I d x
def WIC (Y : Cy) (ρ : Ρ) (c : List Cell) (tg iter : Expr) (n : Nat) (l : List D) (Q : List D → List Cell → Prop) : Prop :=
  ∀ κ σ, κ.c = c → κ.Ok Y.X.K → REnv Y.X.K κ σ ρ → GoX Y κ σ ρ → ∀ Q' : It → Hp → Prop, (∀ J ds κ1, κ.le κ1 → κ1.Ok Y.X.K → ItOkC Y.X.K J ds n l κ1 → Q ds κ1.c → Q' J κ1.H) → wI Y.X tg iter σ κ.H Q'
section
variable {Y : Cy} {ρ : Ρ} {c : List Cell} {n0 : Nat} {Z : EndsW} {pos : Pos}
theorem ws_forC {tg iter : Expr} {body : List Stmt} (n : Nat) (l : List D) (t : Tgt) (hcm : Y.X.calm = true) (hg : PG Y.X tg (t.g Y.X.K))
    (h : WIC Y ρ c tg iter n l fun ds c1 => ∃ P : Nat → Ρ → List Cell → Prop, P 0 ρ c1 ∧ (∀ i ρ' c', P i ρ' c' → c'[n]? = some (.lst l)) ∧ (∀ i d ρ' c', ds[i]? = some d → P i ρ' c' → t.fits d ∧ WSs Y c1.length (t.bind ρ' d) c' body { nx := P (i + 1), rt := Z.rt, bk := Z.nx, ct := P (i + 1) }) ∧ ∀ ρ' c', P ds.length ρ' c' → Z.nx ρ' c')
    (hs : ∀ x, foldedSetIterable iter Y.X.env x = pure x) : WS Y n0 ρ c (.For tg iter body [] pos) Z := fun κ0 κ σ h0 l0 hc o r De E => by
  refine PS.w (ps_for Y.po hcm pi_w hg pss_w hs) (h κ σ hc o r (E.gox l0 r) _ fun J ds κ1 l1 o1 it ⟨P, p0, stay, turn, fin⟩ => ?_)
  have hlen : κ1.th.length = κ1.c.length := o1.len
  refine ⟨fun i m σ' H' => m = ds.length - i ∧ i ≤ ds.length ∧ ∃ κ' ρ', κ1.le κ' ∧ κ'.Ok Y.X.K ∧ REnv Y.X.K κ' σ' ρ' ∧ P i ρ' κ'.c ∧ κ'.H = H', ⟨ds.length, by simp, Nat.zero_le _, κ1, ρ, .refl _, o1, r.le l1, p0, rfl⟩, ?_⟩
  rintro i m σ' H' ⟨rfl, hi, κ', ρ', l', o', r', p, rfl⟩
  by_cases hlt : i < ds.length
  · have hd : ds[i]? = some ds[i] := List.getElem?_eq_getElem hlt
    refine .inr ⟨it.go κ' l' o' (stay _ _ _ p) i hlt, fun σ2 H2 => ∃ κ2 ρ2, κ1.le κ2 ∧ κ2.Ok Y.X.K ∧ REnv Y.X.K κ2 σ2 ρ2 ∧ P (i + 1) ρ2 κ2.c ∧ κ2.H = H2, fun σ2 H2 ⟨κ2, ρ2, a1, a2, a3, a4, a5⟩ => ⟨ds.length - (i + 1), by omega, rfl, hlt, κ2, ρ2, a1, a2, a3, a4, a5⟩, fun x H2 y => ?_⟩
    obtain ⟨κ2, l2, o2, rfl, ec, rp⟩ := it.yld κ' l' o' (stay _ _ _ p) i _ x H2 hd y
    obtain ⟨hf, hb⟩ := turn i _ ρ' κ2.c hd (by rw [ec]; exact p)
    refine Tgt.go hf o2 rp (r'.le l2) fun σ3 _ r3 => ?_
    exact hb κ1 κ2 σ3 hlen (l'.trans l2) rfl o2 r3 _ ⟨fun σ4 κ4 ρ4 l4 o4 r4 q => ⟨κ4, ρ4, l4, o4, r4, q, rfl⟩, fun v w κ4 l4 o4 rw4 q => E.rt v w κ4 (l0.trans (l1.trans l4)) o4 rw4 q, fun σ4 κ4 ρ4 l4 o4 r4 q => E.nx σ4 κ4 ρ4 (l0.trans (l1.trans l4)) o4 r4 q,
      fun σ4 κ4 ρ4 l4 o4 r4 q => ⟨κ4, ρ4, l4, o4, r4, q, rfl⟩, fun x' C d' σ4 κ4 ρ4 l4 o4 r4 rx q => E.ex x' C d' σ4 κ4 ρ4 (l0.trans (l1.trans l4)) o4 r4 rx q⟩
  · have e : i = ds.length := by omega
    subst e
    exact .inl ⟨it.stop κ' l' o' (stay _ _ _ p), E.nx σ' κ' ρ' (l0.trans (l1.trans l')) o' r' (fin ρ' κ'.c p)⟩
/-- what such a loop asks -/
def ForAskC (Y : Cy) (ρ : Ρ) (Z : EndsW) (t : Tgt) (body : List Stmt) (n : Nat) (l : List D) (ds : List D) (c1 : List Cell) : Prop :=
  ∃ P : Nat → Ρ → List Cell → Prop, P 0 ρ c1 ∧ (∀ i ρ' c', P i ρ' c' → c'[n]? = some (.lst l)) ∧ (∀ i d ρ' c', ds[i]? = some d → P i ρ' c' → t.fits d ∧ WSs Y c1.length (t.bind ρ' d) c' body { nx := P (i + 1), rt := Z.rt, bk := Z.nx, ct := P (i + 1) }) ∧ ∀ ρ' c', P ds.length ρ' c' → Z.nx ρ' c'
theorem ws_forCE {tg iter : Expr} {body : List Stmt} (t : Tgt) (hcm : Y.X.calm = true) (hg : PG Y.X tg (t.g Y.X.K)) (hs : ∀ x, foldedSetIterable iter Y.X.env x = pure x)
    (h : ∃ n l, WIC Y ρ c tg iter n l (ForAskC Y ρ Z t body n l)) : WS Y n0 ρ c (.For tg iter body [] pos) Z := by
  obtain ⟨n, l, h⟩ := h
  exact ws_forC n l t hcm hg h hs
end
end WL
/-! sorted of ints; len of an own class. -/
/-! list(zip(xs, ys)) -/
namespace PySem
open Sem (wp)
theorem zipty_len : typeLookup (.type "zip") "__len__" = pure none := by rw [typeLookup_type, builtinLookup_eq_fast]; kernel_rfl
theorem zipty_hint : typeLookup (.type "zip") "__length_hint__" = pure none := by rw [typeLookup_type, builtinLookup_eq_fast]; kernel_rfl
section
variable {prog : Program} {w : World} {A : Around} {E : Value → Shared → Prop} {s : Shared}
theorem zpy {z TI TO i1 i2 l1 l2 : Addr} {k : Nat} {xs ys : Array Value} {x y : Value} {Q : Option Value → Shared → Prop} (D : ZipApart z TI TO i1 i2 l1 l2) (Z : ZAt s.heap z TI TO i1 i2 l1 l2 k)
    (L1 : s.heap.IsList l1 xs) (L2 : s.heap.IsList l2 ys) (hx : xs[k]? = some x) (hy : ys[k]? = some y)
    (q : ∀ g, ZAt g z TI TO i1 i2 l1 l2 (k + 1) → IsPair g s.heap.objs.size x y → g.objs.size = s.heap.objs.size + 1 →
      (∀ c o, c ≠ z → c ≠ TO → c ≠ i1 → c ≠ i2 → s.heap.get? c = some o → g.get? c = some o) → Q (some (.ref s.heap.objs.size)) { s with heap := g }) :
    wpAny (model prog w) A (pyNext (.ref z)) Q E s := by
  have ty := Z.ty
  unfold pyNext
  exact wpAny_bind (wpAny_attempt (wpAny_callSpecial?_slot (name := Str.ofString "__next__") ty F.slot_zip_next (wpAny_call_entry F.slot_zip_next ty F.entry_zip_next (zbody D Z L1 L2 hx hy fun g a b c d => wpAny_pure (q g a b c d)) (F.args_zip_next_1 _))))
theorem zpy_end {z TI TO i1 i2 l1 l2 : Addr} {k : Nat} {xs : Array Value} {Q : Option Value → Shared → Prop} (hh : A.handled = none) (D : ZipApart z TI TO i1 i2 l1 l2) (Z : ZAt s.heap z TI TO i1 i2 l1 l2 k)
    (L1 : s.heap.IsList l1 xs) (hx : xs[k]? = none)
    (q : ∀ g, (∀ c o, c ≠ z → c ≠ TO → c ≠ i1 → c ≠ i2 → s.heap.get? c = some o → g.get? c = some o) → Q none { s with heap := g }) :
    wpAny (model prog w) A (pyNext (.ref z)) Q E s := by
  have ty := Z.ty
  unfold pyNext
  refine wpAny_bind (wpAny_attempt (wpAny_callSpecial?_slot (name := Str.ofString "__next__") ty F.slot_zip_next (wpAny_call_entry F.slot_zip_next ty F.entry_zip_next (zbody_end hh D Z L1 hx fun g ee hk he => ?_) (F.args_zip_next_1 _))))
  obtain ⟨oo, ho, hc⟩ := he
  refine wpAny_bind (wpAny_isInstance (T := "StopIteration") (b := true) ⟨oo, ho, hc⟩ isSubtype_stop ?_)
  exact wpAny_pure (q _ hk)
theorem zpyIter {z TI TO i1 i2 l1 l2 : Addr} {k : Nat} {Q : Value → Shared → Prop} (Z : ZAt s.heap z TI TO i1 i2 l1 l2 k) (q : Q (.ref z) s) : wpAny (model prog w) A (pyIter (.ref z)) Q E s := by
  refine wpAny_pyIter_slot Z.ty F.slot_zip_iter (wpAny_call_entry F.slot_zip_iter Z.ty F.entry_zip_iter ?_ (F.args_zip_iter_1 _))
  show wpAny _ _ (ret (.ref z)) _ _ s
  exact wpAny_pure ⟨_, rfl, "zip", _, Z.ty, F.slot_zip_next.lookup, q⟩
end
end PySem
namespace WL
open PySem PySem.Spec PyProof.Rows L2
/-- the list at S while pairs are put into it -/
inductive Made (S : Addr) (xs ys : List V) (H0 : Hp) : Nat → Hp → List V → Prop
  | nil : Made S xs ys H0 0 H0 []
  | snoc {i : Nat} {H : Hp} {ps : List V} {p : Addr} {x y : V} (m : Made S xs ys H0 i H ps) (hp : H p = none) (hx : xs[i]? = some x) (hy : ys[i]? = some y) :
      Made S xs ys H0 (i + 1) (upd (upd H p (.tup [x, y])) S (.lst (ps ++ [.ref p]))) (ps ++ [.ref p])
theorem Made.at_ {S : Addr} {xs ys : List V} {H0 H : Hp} {i : Nat} {ps : List V} (m : Made S xs ys H0 i H ps) (h0 : H0 S = some (.lst [])) : H S = some (.lst ps) ∧ ps.length = i := by
  cases m with
  | nil => exact ⟨h0, rfl⟩
  | snoc m hp hx hy => exact ⟨upd_same, by rw [List.length_append, List.length_singleton, (m.at_ h0).2]⟩
theorem Made.seq {S a : Addr} {K : PySem.W.Frag} {xs ys zs : List V} {H0 H : Hp} {i : Nat} {ps : List V} (m : Made S xs ys H0 i H ps) (h0 : H0 S = some (.lst [])) (ha : a ≠ S) (h : SqL K H0 a zs) : SqL K H a zs := by
  induction m with
  | nil => exact h
  | snoc m hp hx hy ih =>
    rename_i i H ps p x y
    rcases ih with r | r
    · left
      have hap : ∀ {o : HO}, H a = some o → a ≠ p := fun q z => by subst z; rw [hp] at q; cases q
      rcases r with r | ⟨o, r⟩
      · left; rw [upd_ne ha, upd_ne (hap r)]; exact r
      · right; exact ⟨o, by rw [upd_ne ha, upd_ne (hap r)]; exact r⟩
    · exact .inr r
section
variable {X : Cx} {pins : List (Addr × Obj)} {σ : L2.St} {R : Result → Shared → Prop}
theorem zloop {A : Around} {z TI TO i1 i2 a b S : Addr} {xs ys : List V} {res : Value} {H0 : Hp} (hh : A.handled = none) (D : ZipApart z TI TO i1 i2 a b) (hS : S ∉ [z, TI, TO, i1, i2]) (haS : a ≠ S) (hbS : b ≠ S)
    (hl : ys.length = xs.length) (hz : xs.length ≤ 1000000) (ha0 : SqL X.K H0 a xs) (hb0 : SqL X.K H0 b ys) (h0 : H0 S = some (.lst []))
    (hend : ∀ s' H' ps, Made S xs ys H0 xs.length H' ps → Inv X pins σ H' s' → R (.ok (.ret res)) s') :
    ∀ (m i : Nat) (s : Shared) (H : Hp) (ps : List V), i + m = xs.length → Made S xs ys H0 i H ps → Inv X pins σ H s → (∀ c ∈ [z, TI, TO, i1, i2], FpOk X pins H c) → ZAt s.heap z TI TO i1 i2 a b i →
      codeAny (model X.prog X.w) A (.builtin "list.extend.loop" ⟨[.ref S, .ref z, res], []⟩) R s := by
  intro m
  induction m with
  | zero =>
    intro i s H ps hi hm I hf Z
    have hi : i = xs.length := by omega
    subst hi
    obtain ⟨its, rv, p, _⟩ := I.list (hm.seq h0 haS ha0)
    have l1 := rv.length
    refine codeAny_builtin F.entry_extend_loop ?_
    rw [Around.under_plainId F.plain_extend_loop _]
    show wpAny _ A.in1 (pyNext (.ref z) >>= _) _ _ s
    refine wpAny_bind (zpy_end (A := A.in1) hh D Z p.isList (by simp; omega) fun g hk => ?_)
    exact wpAny_pure (hend _ _ _ hm (I.turnedL (t' := s.toks) (ch := [z, TI, TO, i1, i2]) (fun c o hb q => hk c o (fun r => hb (by simp [r])) (fun r => hb (by simp [r])) (fun r => hb (by simp [r])) (fun r => hb (by simp [r])) q) hf))
  | succ m ih =>
    intro i s H ps hi hm I hf Z
    obtain ⟨its, rv, p, _⟩ := I.list (hm.seq h0 haS ha0)
    obtain ⟨its2, rv2, p2, _⟩ := I.list (hm.seq h0 hbS hb0)
    obtain ⟨x, hx⟩ : ∃ x, xs[i]? = some x := ⟨_, List.getElem?_eq_getElem (by omega)⟩
    obtain ⟨y, hy⟩ : ∃ y, ys[i]? = some y := ⟨_, List.getElem?_eq_getElem (by omega)⟩
    obtain ⟨u, hu, ru⟩ := rv.get hx
    obtain ⟨u2, hu2, ru2⟩ := rv2.get hy
    obtain ⟨hSo, hpl⟩ := hm.at_ h0
    obtain ⟨_, acc, cc, hacc, hSg⟩ := I.hok S _ hSo
    have hSl : S < s.heap.objs.size := Heap.lt_size hSg
    have hal := hacc.length
    refine codeAny_builtin F.entry_extend_loop ?_
    rw [Around.under_plainId F.plain_extend_loop _]
    show wpAny _ A.in1 (pyNext (.ref z) >>= _) _ _ s
    refine wpAny_bind (zpy D Z p.isList p2.isList (x := u) (y := u2) (by simpa using hu) (by simpa using hu2) fun g g1 g2 g3 g4 => ?_)
    have hk : ∀ c o, c ∉ [z, TI, TO, i1, i2] → s.heap.get? c = some o → g.get? c = some o := fun c o hb q => g4 c o (fun r => hb (by simp [r])) (fun r => hb (by simp [r])) (fun r => hb (by simp [r])) (fun r => hb (by simp [r])) q
    have hSg2 := hk S _ hS hSg
    have new1 : ObjOk X.prog X.w (upd H s.heap.objs.size (.tup [x, y])) g s.heap.objs.size (.tup [x, y]) :=
      ⟨by show 2 ≤ sizeLine; decide, [u, u2], .cons ru (.cons ru2 .nil), ⟨_, g2, rfl, _, rfl⟩⟩
    have I1 : Inv X pins σ (upd H s.heap.objs.size (.tup [x, y])) { s with heap := g, toks := s.toks } := I.turnedNew (t' := s.toks) (ch := [z, TI, TO, i1, i2]) hk hf (Nat.le_refl _) new1
    have hpn : H s.heap.objs.size = none := I.hok.fresh (Nat.le_refl _)
    have hSp : S ≠ s.heap.objs.size := Nat.ne_of_lt hSl
    have hz2 : xs.length < sizeLine := Nat.lt_of_le_of_lt hz (by decide)
    show wpAny _ A.in1 (updateSeq S (·.push (.ref s.heap.objs.size)) >>= _) _ _ _
    refine wpAny_bind ?_
    refine wpAny_updateSeq (s := { s with heap := g }) hSg2 rfl (wpAny_pure ⟨plainId_quiet F.plain_extend_loop _, ?_⟩) (by rw [List.size_toArray]; omega) (by show (acc.toArray.push _).size ≤ sizeLine + 1; rw [Array.size_push, List.size_toArray]; omega)
    have keep : ∀ c o, c ≠ S → g.get? c = some o → (g.update S (Obj.mapSeq (·.push (.ref s.heap.objs.size)))).get? c = some o := fun c o hc q => (Heap.get?_update_other _ _ (Ne.symm hc)).trans q
    have new2 : ObjOk X.prog X.w (upd (upd H s.heap.objs.size (.tup [x, y])) S (.lst (ps ++ [.ref s.heap.objs.size]))) (g.update S (Obj.mapSeq (·.push (.ref s.heap.objs.size)))) S (.lst (ps ++ [.ref s.heap.objs.size])) :=
      ⟨by rw [List.length_append, List.length_singleton]; omega, acc ++ [Value.ref s.heap.objs.size], cc + 1, hacc.append (.cons (show L2.RelV (V.ref s.heap.objs.size) (Value.ref s.heap.objs.size) from rfl) .nil), by
        refine (Heap.get?_update_self (Obj.mapSeq (·.push (.ref s.heap.objs.size))) hSg2 rfl).trans ?_
        simp [Obj.mapSeq]⟩
    have I2 : Inv X pins σ (upd (upd H s.heap.objs.size (.tup [x, y])) S (.lst (ps ++ [.ref s.heap.objs.size]))) { s with heap := g.update S (Obj.mapSeq (·.push (.ref s.heap.objs.size))), toks := s.toks } :=
      I1.write (t' := s.toks) (x := S) (e := S) (by rw [upd_ne hSp, hSo]; exact True.intro) (.inl rfl) (fun c o hc q => keep c o hc q) ⟨_, Heap.get?_update_self (Obj.mapSeq (·.push (.ref s.heap.objs.size))) hSg2 rfl⟩ new2
    have lt5 : ∀ c ∈ [z, TI, TO, i1, i2], c < s.heap.objs.size := fun c hc => by
      obtain ⟨⟨f0, f, gz, _⟩, gTI, ⟨x, y, gTO⟩, ⟨o1, e1, _⟩, ⟨o2, e2, _⟩⟩ := Z
      have cs : c = z ∨ c = TI ∨ c = TO ∨ c = i1 ∨ c = i2 := by simpa using hc
      rcases cs with rfl | rfl | rfl | rfl | rfl
      · exact Heap.lt_size gz
      · exact Heap.lt_size gTI
      · exact Heap.lt_size gTO
      · exact Heap.lt_size e1
      · exact Heap.lt_size e2
    have ne5 : ∀ c ∈ [z, TI, TO, i1, i2], c ≠ S := fun c hc r => hS (r ▸ hc)
    refine ih (i + 1) { s with heap := g.update S (Obj.mapSeq (·.push (.ref s.heap.objs.size))) } _ _ (by omega) (.snoc hm hpn hx hy) I2 (fun c hc => ?_) ?_
    · refine ⟨?_, (hf c hc).2⟩
      rw [upd_ne (ne5 c hc), upd_ne (Nat.ne_of_lt (lt5 c hc))]
      exact (hf c hc).1
    · obtain ⟨⟨f0, f, gz, gf⟩, gTI, ⟨x0, y0, gTO⟩, m1, m2⟩ := g1
      exact ⟨⟨f0, f, keep _ _ (ne5 z (by simp)) gz, gf⟩, keep _ _ (ne5 TI (by simp)) gTI, ⟨x0, y0, keep _ _ (ne5 TO (by simp)) gTO⟩, m1.at fun o q => keep i1 o (ne5 i1 (by simp)) q, m2.at fun o q => keep i2 o (ne5 i2 (by simp)) q⟩
/-- list(z) of a zip that was made now -/
theorem call_list_zip {A : Around} {E : Value → Shared → Prop} {Q : Value → Shared → Prop} {s : Shared} {H : Hp} {z TI TO i1 i2 a b : Addr} {xs ys : List V} (hh : A.handled = none) (D : ZipApart z TI TO i1 i2 a b) (I : Inv X pins σ H s)
    (hl : ys.length = xs.length) (hz : xs.length ≤ 1000000) (ha : SqL X.K H a xs) (hb : SqL X.K H b ys) (hf : ∀ c ∈ [z, TI, TO, i1, i2], FpOk X pins H c) (Z : ZAt s.heap z TI TO i1 i2 a b 0)
    (q : ∀ S s' H' ps, H S = none → Made S xs ys (upd H S (.lst [])) xs.length H' ps → Inv X pins σ H' s' → Q (.ref S) s') :
    wpAny (model X.prog X.w) A (call (.type "list") [.ref z]) Q E s := by
  obtain ⟨S, eS⟩ : ∃ S, S = s.heap.objs.size := ⟨_, rfl⟩
  have lt5 : ∀ c ∈ [z, TI, TO, i1, i2], c < S := fun c hc => by
    obtain ⟨⟨f0, f, gz, _⟩, gTI, ⟨x, y, gTO⟩, ⟨o1, e1, _⟩, ⟨o2, e2, _⟩⟩ := Z
    have cs : c = z ∨ c = TI ∨ c = TO ∨ c = i1 ∨ c = i2 := by simpa using hc
    rw [eS]
    rcases cs with rfl | rfl | rfl | rfl | rfl
    · exact Heap.lt_size gz
    · exact Heap.lt_size gTI
    · exact Heap.lt_size gTO
    · exact Heap.lt_size e1
    · exact Heap.lt_size e2
  have hSf : S ∉ [z, TI, TO, i1, i2] := fun hm => Nat.lt_irrefl _ (lt5 _ hm)
  have hzS : S ≠ z := fun e => hSf (by simp [e])
  obtain ⟨_, _, p1, _⟩ := I.list ha
  obtain ⟨_, _, p2, _⟩ := I.list hb
  have haS : a ≠ S := by rw [eS]; exact Nat.ne_of_lt p1.lt
  have hbS : b ≠ S := by rw [eS]; exact Nat.ne_of_lt p2.lt
  have hn : H S = none := I.hok.fresh (by rw [eS]; exact Nat.le_refl _)
  have seq0 : ∀ {d : Addr} {zs : List V}, d ≠ S → SqL X.K H d zs → SqL X.K (upd H S (.lst [])) d zs := fun hd r => by
    rcases r with r | r
    · left
      rcases r with r | ⟨o, r⟩
      · left; rw [upd_ne hd]; exact r
      · right; exact ⟨o, by rw [upd_ne hd]; exact r⟩
    · exact .inr r
  refine callType_codes (Q₁ := fun obj s₁ => obj = .ref S ∧ s₁ = { s with heap := s.heap.push { cls := .type "list", data := .seq #[] } }) F.called_list (F.typeCall_list_1 _) F.entry_list_init
    (code_list_new _ ⟨by rw [eS], rfl⟩) fun obj s₁ h₁ => ?_
  obtain ⟨rfl, rfl⟩ := h₁
  have G0 : (s.heap.push { cls := .type "list", data := .seq #[] }).get? S = some { cls := .type "list", data := .seq #[] } := by rw [eS]; exact Heap.get?_push_size _ rfl
  refine ⟨⟨_, G0, rfl⟩, F.args_list_init_2 _ _, ?_⟩
  show wpAny _ A.in1.in1 (do let old ← Builtin.List.listItems (.ref S); Builtin.List.listUpdate (.ref S) (fun _ => #[]); letGo old.toList.reverse; Builtin.List.listExtendWith (.ref S) (.ref z) .none) _ _ _
  refine wpAny_bind ?_
  unfold Builtin.List.listItems
  refine wpAny_bind (wpAny_seqItems G0 rfl (wpAny_pure ?_))
  show wpAny _ A.in1.in1 (updateSeq S (fun _ => #[]) >>= fun _ => letGo (#[] : Array Value).toList.reverse >>= fun _ => Builtin.List.listExtendWith (.ref S) (.ref z) .none) _ _ _
  refine wpAny_bind (wpAny_updateSeq G0 rfl ?_)
  have G1 := Heap.get?_update_self (Obj.mapSeq (fun _ => (#[] : Array Value))) G0 rfl
  refine wpAny_bind (wpAny_letGo ?_)
  unfold Builtin.List.listExtendWith
  have up : ∀ (h : Heap) (f : Obj → Obj), (∀ c o, s.heap.get? c = some o → h.get? c = some o) → ∀ c o, s.heap.get? c = some o → (h.update S f).get? c = some o := fun h f r c o e =>
    (Heap.get?_update_other _ _ (by rw [eS]; exact Ne.symm (Nat.ne_of_lt (Heap.lt_size e)))).trans (r c o e)
  have k1 : ∀ c o, s.heap.get? c = some o → (s.heap.push { cls := .type "list", data := .seq #[] }).get? c = some o := fun c o e => Heap.get?_push_of_some _ e
  have k2 := up _ (Obj.mapSeq (fun _ => (#[] : Array Value))) k1
  have Zk : ∀ {h : Heap}, (∀ c o, s.heap.get? c = some o → h.get? c = some o) → ZAt h z TI TO i1 i2 a b 0 := fun r => by
    obtain ⟨⟨f0, f, gz, gf⟩, gTI, ⟨x0, y0, gTO⟩, m1, m2⟩ := Z
    exact ⟨⟨f0, f, r _ _ gz, gf⟩, r _ _ gTI, ⟨x0, y0, r _ _ gTO⟩, m1.at fun o e => r i1 o e, m2.at fun o e => r i2 o e⟩
  refine wpAny_bind (wpAny_typeOf (ZAt.ty (s := { s with heap := _ }) (Zk k2)) ?_)
  have t1 : Builtin.List.listSameRef (.ref S) (.ref z) = false := by simp [Builtin.List.listSameRef, hzS]
  have t2 : (Value.type "zip" == Value.type "list") = false := by decide
  have t3 : (Value.type "zip" == Value.type "tuple") = false := by decide
  simp only [t1, t2, t3, Bool.or_false, Bool.false_eq_true, if_false]
  refine wpAny_bind (zpyIter (s := { s with heap := _ }) (Zk k2) ?_)
  refine wpAny_bind (wpAny_holding ?_)
  unfold Builtin.List.listLengthHint
  refine wpAny_bind (wpAny_specialOf (ZAt.ty (s := { s with heap := _ }) (Zk k2)) zipty_len ?_)
  show wpAny _ A.in1.in1 (specialOf (Value.ref z) (Str.ofString "__length_hint__") >>= _) _ _ _
  refine wpAny_bind (wpAny_specialOf (ZAt.ty (s := { s with heap := _ }) (Zk k2)) zipty_hint ?_)
  refine wpAny_pure ?_
  show wpAny _ A.in1.in1 (rule "list.extend.makes-room" >>= fun _ => Builtin.List.listTouch (.ref S) >>= fun _ =>
    again (.builtin "list.extend.loop" ⟨[.ref S, .ref z, .none], []⟩)) _ _ _
  refine wpAny_bind (wpAny_rule ?_)
  refine wpAny_bind ?_
  show wpAny _ A.in1.in1 (updateSeq S (·.push .none) >>= fun _ => updateSeq S (·.pop)) _ _ _
  refine wpAny_bind (wpAny_updateSeq G1 rfl ?_)
  have G2 := Heap.get?_update_self (Obj.mapSeq (·.push Value.none)) G1 rfl
  refine wpAny_updateSeq (hz := by seq_fits) G2 rfl ?_
  have G3 := Heap.get?_update_self (Obj.mapSeq (·.pop)) G2 rfl
  have k4 := up _ (Obj.mapSeq (·.pop)) (up _ (Obj.mapSeq (·.push Value.none)) k2)
  refine wpAny_pure ⟨plainId_quiet F.plain_extend_loop _, ?_⟩
  have I2 := I.laid (a := S) (o := .lst []) (t' := s.toks) k4 (by rw [eS]; exact Nat.le_refl _) ⟨Nat.zero_le _, [], _, .nil, G3⟩
  refine zloop (X := X) (pins := pins) (σ := σ) (A := A.in1) (H0 := upd H S (.lst [])) hh D hSf haS hbS hl hz (seq0 haS ha) (seq0 hbS hb) upd_same (fun s' H' ps hm I3 => ⟨rfl, q S s' H' ps hn hm I3⟩) xs.length 0 _ _ [] (by omega) .nil I2 (fun c hc => ⟨?_, (hf c hc).2⟩) (Zk k4)
  rw [upd_ne (Nat.ne_of_lt (lt5 c hc))]; exact (hf c hc).1
end
end WL
/-! The expression list(zip(xs, ys)). -/
namespace WL
open PySem PySem.Spec PyProof.Rows L2
theorem made_wd {K : PySem.W.Frag} {κ1 : Wd} (o : κ1.Ok K) {S : Addr} (hS : κ1.H S = none) {l m : List D} {xs ys : List V} (r : Rps K κ1.I l xs) (r' : Rps K κ1.I m ys) {i : Nat} {H : Hp} {ps : List V}
    (h : Made S xs ys (upd κ1.H S (.lst [])) i H ps) : ∃ κ' : Wd, κ1.le κ' ∧ κ'.Ok K ∧ Side κ' S (.lst ps) ∧ Rps K κ'.I ((zipD l m).take i) ps ∧ κ'.H = H ∧ κ'.c = κ1.c := by
  induction h with
  | nil => exact ⟨⟨κ1.I, upd κ1.H S (.lst []), κ1.th, κ1.c⟩, Wd.aux_le hS, o.aux hS, Side.new o hS, by rw [List.take_zero]; exact Rps.nil, rfl, rfl⟩
  | snoc md hp hx hy ih =>
    rename_i i H ps p x y
    obtain ⟨κ', l', o', s', rp, rfl, ec⟩ := ih
    obtain ⟨d, q1, q2⟩ := r.get' hx
    obtain ⟨e, q3, q4⟩ := r'.get' hy
    have rps : Rps K κ'.I [d, e] [x, y] := Rps.cons (Rp.ex l'.ii d q2) (Rps.cons (Rp.ex l'.ii e q4) Rps.nil)
    obtain ⟨l2, o2, rt⟩ := new_tup o' hp rps
    have s2 := s'.le l2
    obtain ⟨o3, s3⟩ := o2.side (u' := .lst (ps ++ [.ref p])) s2
    refine ⟨⟨upd κ'.I p (.tup [x, y]), upd (upd κ'.H p (.tup [x, y])) S (.lst (ps ++ [.ref p])), κ'.th, κ'.c⟩, Wd.le.side (l'.trans l2) s2 hS, o3, s3, ?_, rfl, ec⟩
    have hz : (zipD l m)[i]? = some (.tup [d, e]) := by
      unfold zipD
      rw [List.getElem?_map, List.getElem?_zip_eq_some (z := (d, e)) |>.mpr ⟨q1, q3⟩]; rfl
    rw [List.take_add_one, hz]
    exact Rps.snoc (Rps.ex l2.ii _ rp) rt
def tListZip (K : PySem.W.Frag) (ta : TA) : TE := fun σ H Q => ta σ H fun vs H1 => ∃ a b xs ys, vs = [.ref a, .ref b] ∧ SqL K H1 a xs ∧ SqL K H1 b ys ∧ ys.length = xs.length ∧ xs.length ≤ 1000000 ∧
  ∀ S H' ps, H1 S = none → Made S xs ys (upd H1 S (.lst [])) xs.length H' ps → Q (.ref S) H'
theorem pe_listZip {X : Cx} {e1 e2 : Expr} {ta : TA} {p pz pos posz : Pos} (hc : X.calm = true) (hg : Gl X "list") (hm : X.mg "list" = none) (hgz : Gl X "zip") (hmz : X.mg "zip" = none) (ha : PA X [e1, e2] ta)
    (hs : starEach [.Call (.Name "zip" pz) [e1, e2] [] posz] X.env = [(false, eval (.Call (.Name "zip" pz) [e1, e2] [] posz) X.env)])
    (hsz : starEach [e1, e2] X.env = (false, eval e1 X.env) :: starEach [e2] X.env) (hpl : (backTo posz (starEach [e2] X.env)).any (·.1) = false) :
    PE X (.Call (.Name "list" p) [.Call (.Name "zip" pz) [e1, e2] [] posz] [] pos) (tListZip X.K ta) := by
  refine ⟨fun pins s σ H Q I hR => ?_⟩
  refine Call_ (ld_blt I hg hm boot_list (PyProof.Rows.callWith_type1 ?_ hs rfl))
  rw [hs]
  show wpAny _ _ (spliced ((false, eval (.Call (.Name "zip" pz) [e1, e2] [] posz) X.env) :: backTo pos (starEach [] X.env))) _ _ s
  refine Calls.spliced_cons ?_
  refine Call_ (ld_blt I hgz hmz PyProof.Rows.boot_zip (PyProof.Rows.callWith_type1 (thn (ha.run posz pins s σ H _ I hR) fun us s1 ⟨vs, H1, I1, r1, q1⟩ => ?_) hsz hpl))
  obtain ⟨a, b, xs, ys, ex, hqx, hqy, hl, hlz, q⟩ := q1
  subst ex
  cases r1 with
  | cons r rr =>
    cases rr with
    | cons r' rr =>
      cases rr
      cases r
      cases r'
      obtain ⟨its, rv, p1, _⟩ := I1.list hqx
      obtain ⟨its2, rv2, p2, _⟩ := I1.list hqy
      have la : a < s1.heap.objs.size := p1.lt
      have lb : b < s1.heap.objs.size := p2.lt
      refine call_zip_2 p1.isList p2.isList fun h1 hz hTI hTO t1 t2 hsz1 hk => ?_
      refine Calls.spliced_nil ?_
      have I2 : Inv X pins σ H1 { s1 with heap := h1 } := I1.kept (t' := s1.toks) hk
      refine call_list_zip (I1.ok.hd hc) (PySem.W.ktu_apart s1.heap.objs.size a b la lb) I2 hl hlz hqx hqy (fun c hcm => ?_) ⟨⟨_, _, hz, .inl rfl⟩, hTI, ⟨_, _, hTO⟩, t1, t2⟩ fun S s' H' ps hS md I3 => ⟨.ref S, H', I3, rfl, q S H' ps hS md⟩
      have cs : c = s1.heap.objs.size + 4 ∨ c = s1.heap.objs.size + 2 ∨ c = s1.heap.objs.size + 3 ∨ c = s1.heap.objs.size ∨ c = s1.heap.objs.size + 1 := by simpa using hcm
      have hle : s1.heap.objs.size ≤ c := by
        rcases cs with r | r | r | r | r <;> rw [r]
        · exact Nat.le_add_right _ _
        · exact Nat.le_add_right _ _
        · exact Nat.le_add_right _ _
        · exact Nat.le_refl _
        · exact Nat.le_add_right _ _
      exact I1.fpOk hle (I1.hok.fresh hle)
section
variable {Y : Cy} {ρ : Ρ} {c : List Cell} {Q : KQ}
theorem we_listZip {e1 e2 : Expr} {p pz pos posz : Pos} (hcm : Y.X.calm = true) (hm : Y.X.mg "list" = none) (hmz : Y.X.mg "zip" = none) (hg : Gl Y.X "list") (hgz : Gl Y.X "zip")
    (hs0 : starEach [.Call (.Name "zip" pz) [e1, e2] [] posz] Y.X.env = [(false, eval (.Call (.Name "zip" pz) [e1, e2] [] posz) Y.X.env)]) (hs : starEach [e1, e2] Y.X.env = (false, eval e1 Y.X.env) :: starEach [e2] Y.X.env)
    (hs2 : starEach [e2] Y.X.env = (false, eval e2 Y.X.env) :: starEach [] Y.X.env) (hpl : (backTo posz (starEach [e2] Y.X.env)).any (·.1) = false)
    (h : WE Y ρ c e1 fun w1 c1 => WE Y ρ c1 e2 fun w2 c2 => ∃ l m, w1 = .im (.lst l) ∧ w2 = .im (.lst m) ∧ (l.length = m.length ∧ l.length ≤ 1000000) ∧ Q (.im (.lst (zipD l m))) c2) :
    WE Y ρ c (.Call (.Name "list" p) [.Call (.Name "zip" pz) [e1, e2] [] posz] [] pos) Q := fun κ σ hc o r g Q' G => by
  have hA : WA Y ρ c [e1, e2] fun ws c1 => ∃ l m, ws = [.im (.lst l), .im (.lst m)] ∧ (l.length = m.length ∧ l.length ≤ 1000000) ∧ Q (.im (.lst (zipD l m))) c1 :=
    wa_cons (h.mono fun w c1 h1 => wa_cons (h1.mono fun w2 c2 ⟨l, m, e1, e2, hl, q⟩ => wa_nil ⟨l, m, by rw [e1, e2], hl, q⟩) hs2) hs
  refine PE.w (pe_listZip hcm hg hm hgz hmz pa_w hs0 hs hpl) (hA.bind hc o r g fun vs ws κ1 l1 o1 r1 g1 rw1 ⟨l, m, ew, ⟨hlm, hlz⟩, q⟩ => ?_)
  subst ew
  obtain ⟨v, rr, rfl, ⟨a, xs, rfl, g2, g3⟩, ⟨v2, rr2, rfl, ⟨b, ys, rfl, g4, g5⟩, hn⟩⟩ := rw1
  have hn : rr2 = [] := hn
  subst hn
  have hx := g3.len
  have hy := g5.len
  refine ⟨a, b, xs, ys, rfl, SqL.of (o1.ex _ _ g2), SqL.of (o1.ex _ _ g4), by omega, by omega, fun S H' ps hS md => ?_⟩
  obtain ⟨κ', l', o', s', rp, rfl, ec⟩ := made_wd o1 hS g3 g5 md
  have hlen : (zipD l m).take xs.length = zipD l m := List.take_of_length_le (by rw [zipD_len]; omega)
  rw [hlen] at rp
  obtain ⟨o2, ee⟩ := o'.adopt s'
  have l2 := l'.adopt s' hS
  exact G (.ref S) (.im (.lst (zipD l m))) ⟨upd κ'.I S (.lst ps), κ'.H, κ'.th, κ'.c⟩ (l1.trans l2) o2 ⟨S, ps, rfl, upd_same, Rps.ex ee _ rp⟩ (by show Q _ κ'.c; rw [ec]; exact q)
end
end WL
/-! A dict whose keys are True and False. -/
namespace WL
open PySem PySem.Spec PyProof.Rows L2
/-- the kit's name of a bool as a key -/
def lf (b : Bool) : Leaf := .num (if b then 1 else 0)
theorem lf_inj {a b : Bool} : (lf a = lf b) = (a = b) := by cases a <;> cases b <;> simp [lf]
theorem lf_is {P : Program} {w : World} (b : Bool) : (leafKind P w).is (lf b) (.bool b) = true := by cases b <;> rfl
def boE (kvs : List (Bool × V)) (us : List Value) : List (Leaf × Value) := (kvs.map fun p => lf p.1).zip us
def boH (P : Program) (w : World) (a : Addr) (kvs : List (Bool × V)) : HO := .ext fun h => (a == sysModules) = false ∧ ∃ us, Vals (kvs.map (·.2)) us ∧ h.DictOf (leafKind P w) a (boE kvs us)
theorem bo_val : ∀ {kvs : List (Bool × V)} {us : List Value}, Vals (kvs.map (·.2)) us → ∀ b, RelO (kvs.lookup b) (valueAt (boE kvs us) (lf b))
  | [], _, h, b => by cases h; exact True.intro
  | (k, v) :: r, _, h, b => by
    cases h with
    | cons h1 h2 =>
      rename_i u us
      have ih := bo_val h2 b
      by_cases e : b = k
      · subst e
        have e1 : ((b, v) :: r).lookup b = some v := by simp [List.lookup]
        have e2 : valueAt (boE ((b, v) :: r) (u :: us)) (lf b) = some u := by simp [boE, valueAt]
        rw [e1, e2]; exact h1
      · have e1 : ((k, v) :: r).lookup b = r.lookup b := by
          rw [List.lookup_cons, show (b == k) = false by simpa using e]
        have e2 : valueAt (boE ((k, v) :: r) (u :: us)) (lf b) = valueAt (boE r us) (lf b) := by
          have : ¬ lf k = lf b := by rw [lf_inj]; exact fun z => e z.symm
          simp [boE, valueAt, this]
        rw [e1, e2]; exact ih
theorem bo_add {kvs : List (Bool × V)} {us : List Value} (h : Vals (kvs.map (·.2)) us) (b : Bool) (v : V) (u : Value) : boE (kvs ++ [(b, v)]) (us ++ [u]) = boE kvs us ++ [(lf b, u)] := by
  have hl := h.length
  unfold boE
  rw [List.map_append, List.zip_append (by rw [List.length_map]; rw [List.length_map] at hl; exact hl)]
  rfl
theorem bo_len {kvs : List (Bool × V)} {us : List Value} (h : Vals (kvs.map (·.2)) us) : (boE kvs us).length = kvs.length := by
  have hl := h.length
  unfold boE
  rw [List.length_zip, List.length_map]; rw [List.length_map] at hl; omega
section
variable {X : Cx} {pins : List (Addr × Obj)} {σ : L2.St} {H : Hp} {s : Shared} {a : Addr} {kvs : List (Bool × V)}
theorem bo_new {P : Program} {w : World} {h : Heap} {us : List Value} (hd : (a == sysModules) = false) (r : Vals (kvs.map (·.2)) us) (x : h.DictOf (leafKind P w) a (boE kvs us)) : ObjOk P w H h a (boH P w a kvs) := by
  obtain ⟨o, es, ep, ho, q⟩ := id x
  refine ⟨⟨hd, us, r, x⟩, ⟨o, ho⟩, fun h1 h2 ⟨z1, vs, z2, z3⟩ k => ⟨z1, vs, z2, z3.at' k⟩⟩
theorem bo_get (I : Inv X pins σ H s) (e : H a = some (boH X.prog X.w a kvs)) : (a == sysModules) = false ∧ ∃ us, Vals (kvs.map (·.2)) us ∧ s.heap.DictOf (leafKind X.prog X.w) a (boE kvs us) := (I.hok a _ e).1
theorem bo_is (I : Inv X pins σ H s) (e : H a = some (boH X.prog X.w a kvs)) : s.TypeIs (.ref a) "dict" ∧ (∀ b, Value.ref a = .ref b → ∃ ob, s.heap.get? b = some ob ∧ ob.dict = none) := by
  obtain ⟨_, us, _, dd⟩ := bo_get I e
  refine ⟨dd.typeIs, fun b q => ?_⟩
  cases q
  obtain ⟨ob, _, _, h1, h2, _⟩ := dd
  exact ⟨ob, h1, h2.2.1⟩
/-- the empty dict is one of these -/
theorem bo_nil (I : Inv X pins σ H s) (e : H a = some (.dK [])) : Inv X pins σ (upd H a (boH X.prog X.w a [])) s := by
  obtain ⟨z, hd, vs, rel, o, es, ep, h1, h2, h3, h4, h5, h6⟩ := I.hok a _ e
  cases rel
  have hes : es.toList = [] := by
    cases q : es.toList with
    | nil => rfl
    | cons x xs => rw [q] at h5; cases h5
  have dd : s.heap.DictOf (leafKind X.prog X.w) a (boE [] []) := by
    have he : es = #[] := Array.toList_inj.mp hes
    subst he
    exact ⟨o, #[], ep, h1, h2, h3, (fun d hd => by simp at hd), .nil, by simp [boE]⟩
  exact I.write (t' := s.toks) (x := a) (e := a) (by rw [e]; exact True.intro) (.inl rfl) (fun _ _ _ q => q) ⟨o, h1⟩ (bo_new hd .nil dd)
end
section
variable {X : Cx} {o e f : Expr} {td ty tx : TE} {apos cpos : Pos}
def tBSet (P : Program) (w : World) (td ty tx : TE) : TE := fun σ H Q => td σ H fun x H1 => ∃ a kvs0, x = .ref a ∧ H1 a = some (boH P w a kvs0) ∧ ty σ H1 fun y H2 => tx σ H2 fun z H3 => ∃ kvs b, H3 a = some (boH P w a kvs) ∧ y = .bl b ∧ kvs.length ≤ 1000 ∧
  (∀ v, kvs.lookup b = some v → Q v H3) ∧ (kvs.lookup b = none → Q z (upd H3 a (boH P w a (kvs ++ [(b, z)]))))
theorem pe_bset (ho : PE X o td) (he : PE X e ty) (hf : PE X f tx) (m : M2 X o "setdefault" apos e f cpos) : PE X (.Call (.Attribute o "setdefault" apos) [e, f] [] cpos) (tBSet X.prog X.w td ty tx) := by
  refine ⟨fun pins s σ H Q I h => ?_⟩
  refine wpAny_Call_method m.base m.few m.line PySem.F.plainAttrs_dict PySem.F.slot_dict_setdefault PySem.F.type_dict_setdefault (thn (ho.run pins s σ H _ I h) fun u s1 ⟨x, H1, I1, rx, a, kvs0, ex, d, q1⟩ => ?_)
  subst ex
  obtain rfl : u = Value.ref a := rx
  obtain ⟨t1, t2⟩ := bo_is I1 d
  refine ⟨t1, t2, ?_⟩
  rw [m.trees]
  refine Calls.callWith_builtin rfl (Calls.evalArgs_plain (Calls.spliced_cons (thn (he.run pins s1 σ H1 _ I1 q1) fun iv s2 ⟨y, H2, I2, ry, q2⟩ =>
    Calls.spliced_cons (thn (hf.run pins s2 σ H2 _ I2 q2) fun fv s3 ⟨z, H3, I3, rz, kvs, b, ea, ey, hl, q3, q4⟩ => Calls.spliced_nil ?_))))
  subst ey
  obtain rfl : iv = Value.bool b := ry
  obtain ⟨hd, us, rel, dd⟩ := bo_get I3 ea
  have hz : (boE kvs us).length ≤ sizeLine := by rw [bo_len rel]; exact sz_of (by omega)
  have q := bo_val rel b
  refine call_meetsIn PySem.F.slot_dict_setdefault dd.typeIs PySem.F.entry_dict_setdefault (PySem.F.args_dict_setdefault_3 _ _ _) (kt_meets_setdefault (leafKind X.prog X.w) a (lf_is b) hd fv) ⟨boE kvs us, dd, hz, fun v hv => ?_, fun hn h' dd' hs => ?_⟩
  · rw [hv] at q
    cases q0 : kvs.lookup b with
    | none => rw [q0] at q; exact (show False from q).elim
    | some v0 =>
      rw [q0] at q
      exact ⟨v0, H3, I3.tok _, q, q3 v0 q0⟩
  · rw [hn] at q
    cases q0 : kvs.lookup b with
    | some v0 => rw [q0] at q; exact (show False from q).elim
    | none =>
      rw [PyProof.Rows.stored_absent hn, ← bo_add rel b z fv] at dd'
      have he : ∃ q, h'.get? a = some q := let ⟨q, _, _, hq, _⟩ := dd'; ⟨q, hq⟩
      have r2 : Vals ((kvs ++ [(b, z)]).map (·.2)) (us ++ [fv]) := by rw [List.map_append]; exact rel.append (.cons rz .nil)
      exact ⟨z, _, d_write (t' := s3.toks + 1) I3 (by rw [ea]; exact True.intro) hs he (bo_new hd r2 dd'), rz, q4 q0⟩
def tBGet (P : Program) (w : World) (td ty tx : TE) : TE := fun σ H Q => td σ H fun x H1 => ∃ a kvs0, x = .ref a ∧ H1 a = some (boH P w a kvs0) ∧ ty σ H1 fun y H2 => tx σ H2 fun z H3 => ∃ kvs b, H3 a = some (boH P w a kvs) ∧ y = .bl b ∧ Q ((kvs.lookup b).getD z) H3
theorem pe_bget (ho : PE X o td) (he : PE X e ty) (hf : PE X f tx) (m : M2 X o "get" apos e f cpos) : PE X (.Call (.Attribute o "get" apos) [e, f] [] cpos) (tBGet X.prog X.w td ty tx) := by
  refine ⟨fun pins s σ H Q I h => ?_⟩
  refine wpAny_Call_method m.base m.few m.line PySem.F.plainAttrs_dict PySem.F.slot_dict_get PySem.F.type_dict_get (thn (ho.run pins s σ H _ I h) fun u s1 ⟨x, H1, I1, rx, a, kvs0, ex, d, q1⟩ => ?_)
  subst ex
  obtain rfl : u = Value.ref a := rx
  obtain ⟨t1, t2⟩ := bo_is I1 d
  refine ⟨t1, t2, ?_⟩
  rw [m.trees]
  refine Calls.callWith_builtin rfl (Calls.evalArgs_plain (Calls.spliced_cons (thn (he.run pins s1 σ H1 _ I1 q1) fun iv s2 ⟨y, H2, I2, ry, q2⟩ =>
    Calls.spliced_cons (thn (hf.run pins s2 σ H2 _ I2 q2) fun fv s3 ⟨z, H3, I3, rz, kvs, b, ea, ey, q3⟩ => Calls.spliced_nil ?_))))
  subst ey
  obtain rfl : iv = Value.bool b := ry
  obtain ⟨hd, us, rel, dd⟩ := bo_get I3 ea
  refine call_meetsIn PySem.F.slot_dict_get dd.typeIs PySem.F.entry_dict_get (PySem.F.args_dict_get_3 _ _ _) (meets_dict_get_default (leafKind X.prog X.w) a (lf_is b) hd fv) ⟨_, dd.mapOf, ⟨_, H3, I3.tok _, ?_, q3⟩⟩
  have q := bo_val rel b
  cases q0 : kvs.lookup b with
  | none =>
    cases q1 : valueAt (boE kvs us) (lf b) with
    | none => exact rz
    | some u0 => rw [q0, q1] at q; exact (show False from q).elim
  | some v0 =>
    cases q1 : valueAt (boE kvs us) (lf b) with
    | none => rw [q0, q1] at q; exact (show False from q).elim
    | some u0 => rw [q0, q1] at q; exact q
end
/-! ### as a cell -/
def BD (K : PySem.W.Frag) (P : Program) (w : World) (ds : List (Bool × D)) : Hp → Addr → HO → Prop := fun I a o => ∃ kvs : List (Bool × V), kvs.map (·.1) = ds.map (·.1) ∧ Rps K I (ds.map (·.2)) (kvs.map (·.2)) ∧ o = boH P w a kvs
theorem bd_look {K : PySem.W.Frag} {I : Hp} : ∀ {ds : List (Bool × D)} {kvs : List (Bool × V)}, kvs.map (·.1) = ds.map (·.1) → Rps K I (ds.map (·.2)) (kvs.map (·.2)) → ∀ b, match ds.lookup b, kvs.lookup b with
    | some d, some v => Rp K I d v
    | none, none => True
    | _, _ => False
  | [], kvs, h, _, b => by
    cases kvs with
    | nil => exact True.intro
    | cons p r => simp at h
  | (k, d) :: ds, kvs, h, rp, b => by
    cases kvs with
    | nil => simp at h
    | cons p r =>
      obtain ⟨k2, v⟩ := p
      simp only [List.map_cons, List.cons.injEq] at h
      obtain ⟨h1, h2⟩ := h
      have h1 : k2 = k := h1
      subst h1
      obtain ⟨v2, r2, e, q1, q2⟩ := rp
      injection e with e1 e2
      subst e1 e2
      by_cases e : b = k2
      · subst e
        rw [show ((b, d) :: ds).lookup b = some d by simp [List.lookup], show ((b, v) :: r).lookup b = some v by simp [List.lookup]]
        exact q1
      · have hb : (b == k2) = false := by simpa using e
        rw [show ((k2, d) :: ds).lookup b = ds.lookup b by rw [List.lookup_cons, hb], show ((k2, v) :: r).lookup b = r.lookup b by rw [List.lookup_cons, hb]]
        exact bd_look h2 q2 b
section
variable {Y : Cy} {ρ : Ρ} {c : List Cell} {Q : KQ} {o e f : Expr} {apos cpos : Pos}
abbrev bdC (Y : Cy) (ds : List (Bool × D)) : Cell := .xo (BD Y.X.K Y.X.prog Y.X.w ds)
/-- the empty dict becomes one of these -/
theorem wss_bd0 {n0 n : Nat} {Z : EndsW} {ss : List Stmt} (hn : c[n]? = some (.dic [] [])) (h : WSs Y n0 ρ (c.set n (bdC Y [])) ss Z) : WSs Y n0 ρ c ss Z := fun κ0 κ σ h0 l hc ok r De E => by
  obtain ⟨a, ha⟩ : ∃ a, κ.th[n]? = some a := by
    have : n < κ.th.length := by rw [ok.len, hc]; exact (List.getElem?_eq_some_iff.mp hn).1
    exact ⟨_, List.getElem?_eq_getElem this⟩
  have hn' : κ.c[n]? = some (.dic [] []) := by rw [hc]; exact hn
  obtain ⟨vs, g1, g2, g3⟩ := ok.cl n a _ ha hn'
  have g1 : κ.H a = some (.dK []) := g1
  have lp := Wd.put_le ok (u := boH Y.X.prog Y.X.w a []) (k := bdC Y []) ha
  have op := ok.put (u := boH Y.X.prog Y.X.w a []) (k := bdC Y []) ha ⟨_, upd_same, fun I' _ => ⟨[], rfl, Rps.nil, rfl⟩⟩
  intro pins s I
  exact h κ0 ⟨κ.I, upd κ.H a (boH Y.X.prog Y.X.w a []), κ.th, κ.c.set n (bdC Y [])⟩ σ h0 (l.trans lp) (by show κ.c.set n _ = _; rw [hc]) op (r.le lp) De E pins s (bo_nil I g1)
theorem we_bset (m : M2 Y.X o "setdefault" apos e f cpos) (h : WE Y ρ c o fun wo c1 => ∃ n ds0, wo = .ce n ∧ c1[n]? = some (bdC Y ds0) ∧ WE Y ρ c1 e fun w2 c2 => WE Y ρ c2 f fun w3 c3 => ∃ ds b d, c3[n]? = some (bdC Y ds) ∧ w2 = .im (.bl b) ∧ w3 = .im d ∧ ds.length ≤ 1000 ∧
    (∀ d', ds.lookup b = some d' → Q (.im d') c3) ∧ (ds.lookup b = none → Q (.im d) (c3.set n (bdC Y (ds ++ [(b, d)]))))) :
    WE Y ρ c (.Call (.Attribute o "setdefault" apos) [e, f] [] cpos) Q := fun κ σ hc ok r g Q' G =>
  PE.w (pe_bset pe_w pe_w pe_w m) (h.bind hc ok r g fun v wo κ1 l1 o1 r1 g1 rw1 ⟨n, ds0, ew, hn, q1⟩ => by
    subst ew
    obtain ⟨a, ha, rfl⟩ := rw1
    obtain ⟨u0, gu0, rb0⟩ := o1.cl n a _ ha hn
    obtain ⟨kvs0, _, _, eu0⟩ := rb0 _ (Ex.refl _)
    refine ⟨a, kvs0, rfl, by rw [gu0, eu0], ?_⟩
    refine q1.bind rfl o1 r1 g1 fun v2 w2 κ2 l2 o2 r2 g2 rw2 q2 => ?_
    refine q2.bind rfl o2 r2 g2 fun v3 w3 κ3 l3 o3 r3 g3 rw3 ⟨ds, b, d, hn3, e2, e3, hl, qa, qb⟩ => ?_
    subst e2 e3
    have ha3 : κ3.th[n]? = some a := l3.th _ _ (l2.th _ _ ha)
    obtain ⟨u, gu, rb⟩ := o3.cl n a _ ha3 hn3
    obtain ⟨kvs, k1, k2, eu⟩ := rb _ (Ex.refl _)
    have hv2 : v2 = .bl b := rw2
    have hlk : kvs.length = ds.length := by have := congrArg List.length k1; simpa using this
    have lk := bd_look k1 k2 b
    refine ⟨kvs, b, by rw [gu, eu], hv2, by omega, fun v hv => ?_, fun hv => ?_⟩
    · rw [hv] at lk
      cases hd : ds.lookup b with
      | none => rw [hd] at lk; exact lk.elim
      | some d' => rw [hd] at lk; exact G v (.im d') κ3 ((l1.trans l2).trans l3) o3 lk (qa d' hd)
    · rw [hv] at lk
      cases hd : ds.lookup b with
      | some d' => rw [hd] at lk; exact lk.elim
      | none =>
        have lp := Wd.put_le o3 (u := boH Y.X.prog Y.X.w a (kvs ++ [(b, v3)])) (k := bdC Y (ds ++ [(b, d)])) ha3
        have op := o3.put (u := boH Y.X.prog Y.X.w a (kvs ++ [(b, v3)])) (k := bdC Y (ds ++ [(b, d)])) ha3 ⟨_, upd_same, fun I' ex => ⟨kvs ++ [(b, v3)], by rw [List.map_append, List.map_append, k1]; rfl, by
          rw [List.map_append, List.map_append]
          exact Rps.append (Rps.ex ex _ k2) (Rps.cons (Rp.ex ex d rw3) Rps.nil), rfl⟩⟩
        exact G v3 (.im d) ⟨κ3.I, upd κ3.H a (boH Y.X.prog Y.X.w a (kvs ++ [(b, v3)])), κ3.th, κ3.c.set n (bdC Y (ds ++ [(b, d)]))⟩ (((l1.trans l2).trans l3).trans lp) op rw3 (qb hd))
theorem we_bget (m : M2 Y.X o "get" apos e f cpos) (h : WE Y ρ c o fun wo c1 => ∃ n ds0, wo = .ce n ∧ c1[n]? = some (bdC Y ds0) ∧ WE Y ρ c1 e fun w2 c2 => WE Y ρ c2 f fun w3 c3 => ∃ ds b d, c3[n]? = some (bdC Y ds) ∧ w2 = .im (.bl b) ∧ w3 = .im d ∧ Q (.im ((ds.lookup b).getD d)) c3) :
    WE Y ρ c (.Call (.Attribute o "get" apos) [e, f] [] cpos) Q := fun κ σ hc ok r g Q' G =>
  PE.w (pe_bget pe_w pe_w pe_w m) (h.bind hc ok r g fun v wo κ1 l1 o1 r1 g1 rw1 ⟨n, ds0, ew, hn, q1⟩ => by
    subst ew
    obtain ⟨a, ha, rfl⟩ := rw1
    obtain ⟨u0, gu0, rb0⟩ := o1.cl n a _ ha hn
    obtain ⟨kvs0, _, _, eu0⟩ := rb0 _ (Ex.refl _)
    refine ⟨a, kvs0, rfl, by rw [gu0, eu0], ?_⟩
    refine q1.bind rfl o1 r1 g1 fun v2 w2 κ2 l2 o2 r2 g2 rw2 q2 => ?_
    refine q2.bind rfl o2 r2 g2 fun v3 w3 κ3 l3 o3 r3 g3 rw3 ⟨ds, b, d, hn3, e2, e3, qa⟩ => ?_
    subst e2 e3
    have ha3 : κ3.th[n]? = some a := l3.th _ _ (l2.th _ _ ha)
    obtain ⟨u, gu, rb⟩ := o3.cl n a _ ha3 hn3
    obtain ⟨kvs, k1, k2, eu⟩ := rb _ (Ex.refl _)
    have hv2 : v2 = .bl b := rw2
    have lk := bd_look k1 k2 b
    refine ⟨kvs, b, by rw [gu, eu], hv2, ?_⟩
    cases hd : ds.lookup b with
    | none =>
      cases hv : kvs.lookup b with
      | some v => rw [hd, hv] at lk; exact lk.elim
      | none => rw [hd] at qa; exact G v3 (.im d) κ3 ((l1.trans l2).trans l3) o3 rw3 qa
    | some d' =>
      cases hv : kvs.lookup b with
      | none => rw [hd, hv] at lk; exact lk.elim
      | some v => rw [hd, hv] at lk; rw [hd] at qa; exact G v (.im d') κ3 ((l1.trans l2).trans l3) o3 lk qa)
end
end WL
/-! A walk over the values of a dict that was just made. -/
namespace WL
open PySem PySem.Spec PyProof.Rows L2
/-- what an expression gives, locked from then on -/
def tLk (X : Cx) (e : Expr) : TE := fun σ H Q => wE X e σ H fun v H1 => ∃ d u, v = .ref d ∧ H1 d = some u ∧ Mut (some u) ∧ ∀ od, Q v (upd H1 d (.frz od u))
theorem pe_lk {X : Cx} {e : Expr} : PE X e (tLk X e) := ⟨fun pins s σ H Q I h => thn (h pins s I) fun u s1 ⟨x, H1, I1, rx, d, w, ex, hd, mu, q⟩ =>
  let ⟨od, I2⟩ := I1.lock hd mu
  ⟨x, _, I2, rx, q od⟩⟩
theorem zip_at {α β : Type} {ks : List α} {vs : List β} {i : Nat} {k : α} {v : β} (h : (ks.zip vs)[i]? = some (k, v)) : vs[i]? = some v := by
  have := List.getElem?_zip_eq_some.mp h
  exact this.2
theorem itok_vals {K : PySem.W.Frag} {κ1 : Wd} {a : Addr} {od : Obj} {ks : List Key} {vs : List V} {ds : List D} (h : κ1.I a = some (.frz od (.dK (ks.zip vs)))) (hl : ks.length = vs.length) (r : Rps K κ1.I ds vs) : ItOk K (Itd a od (ks.zip vs)) ds κ1 := by
  have hn := r.len
  have hz : (ks.zip vs).length = ds.length := by rw [List.length_zip]; omega
  refine ⟨fun κ' l o i hi => ⟨o.ex _ _ (l _ _ h), by omega⟩, fun κ' l o => ⟨o.ex _ _ (l _ _ h), by omega⟩, fun κ' l o i d x H' hd y => ?_⟩
  obtain ⟨rfl, k, hk⟩ := y
  obtain ⟨v, g1, g2⟩ := r.get hd
  have := zip_at hk
  rw [g1] at this; cases this
  exact ⟨κ', .refl _, o, rfl, rfl, Rp.ex l d g2⟩
section
variable {Y : Cy} {ρ : Ρ} {c : List Cell}
theorem wi_values {tg e : Expr} {apos cpos : Pos} {Q : List D → List Cell → Prop} (hbase : attributeBase e "values" Y.X.env (eval e Y.X.env) = eval e Y.X.env) (hline : (apos.endLine == cpos.line) = true)
    (h : WE Y ρ c e fun w c1 => ∃ ks l, w = .ce c.length ∧ c1 = c ++ [.dic ks l] ∧ clo c.length c = true ∧ Q l c) : WI Y ρ c tg (.Call (.Attribute e "values" apos) [] [] cpos) Q := fun κ σ hc o r g Q' G =>
  PI.w (pi_values pe_lk hbase hline) (h.bind hc o r g fun v w κ1 l1 o1 r1 g1 rw1 ⟨ks, l, ew, ec, hcl, q⟩ => by
    subst ew
    obtain ⟨a, ha, rfl⟩ := rw1
    obtain ⟨vs, h1, h2, h3⟩ := o1.cl _ a _ ha (show κ1.c[c.length]? = some (.dic ks l) by rw [ec]; simp)
    have hn : κ.th.length = c.length := by rw [o.len, hc]
    have hcl1 : clo κ.th.length κ1.c = true := by rw [hn, ec, clo_take (Nat.le_refl _)]; exact hcl
    have sd := o1.past (κ0 := κ) (n := c.length) (by omega) ha h1
    have h0 := l1.newer o1 (n := c.length) (by omega) ha
    refine ⟨a, _, rfl, h1, True.intro, fun od => ⟨a, od, ks.zip vs, rfl, upd_same, ?_⟩⟩
    obtain ⟨o2, s2⟩ := (o1.take hcl1).side (u' := .frz od (.dK (ks.zip vs))) sd
    have l2 : κ.le _ := Wd.le.side (u' := .frz od (.dK (ks.zip vs))) l1.take sd h0
    obtain ⟨o3, ee⟩ := o2.adopt s2
    have l3 := l2.adopt s2 h0
    refine G _ l ⟨upd κ1.I a (.frz od (.dK (ks.zip vs))), upd κ1.H a (.frz od (.dK (ks.zip vs))), κ1.th.take κ.th.length, κ1.c.take κ.th.length⟩ l3 o3 (itok_vals upd_same h2 (Rps.ex ee l h3)) ?_
    show Q l (κ1.c.take κ.th.length)
    rw [hn, ec, take_app]
    exact q)
end
end WL
/-! A dict by rows of pairs (text, number), its values lists that grow. -/
namespace WL
open PySem PySem.Spec PyProof.Rows L2
/-! ### the keys -/
abbrev SK := List (Str × Int)
def skD (l : SK) : D := .tup (l.map fun x => .tup [.str x.1, .int x.2])
def skN (l : SK) : NestedKey := .tup (l.map fun x => .tup [.text x.1, .num x.2])
theorem skN_inj {l m : SK} (h : skN l = skN m) : l = m := by
  have h : l.map (fun x => NestedKey.tup [.text x.1, .num x.2]) = m.map fun x => NestedKey.tup [.text x.1, .num x.2] := NestedKey.tup.inj h
  refine List.map_inj_right (fun x y e => ?_) |>.mp h
  have e := NestedKey.tup.inj e
  simp only [List.cons.injEq, NestedKey.text.injEq, NestedKey.num.injEq, and_true] at e
  exact Prod.ext e.1 e.2
theorem skN_depth (l : SK) : (skN l).depth ≤ 8 := by
  have h : NestedKey.depthAll (l.map fun x => NestedKey.tup [.text x.1, .num x.2]) ≤ 1 := by
    induction l with
    | nil => exact Nat.zero_le _
    | cons x l ih => exact Nat.max_le.mpr ⟨Nat.le_refl 1, ih⟩
  show NestedKey.depthAll _ + 1 ≤ 8
  omega
theorem sk_nest {X : Cx} {pins : List (Addr × Obj)} {σ : L2.St} {H I0 : Hp} {s : Shared} (I : Inv X pins σ H s) (ex : Ex I0 H) {l : SK} {v : V} {u : Value} (r : Rp X.K I0 (skD l) v) (rv : RelV v u) : NestedIs s.heap (skN l) u := by
  obtain ⟨a, vs, rfl, h1, h2⟩ := r
  obtain rfl : u = Value.ref a := rv
  obtain ⟨its, rr, ⟨o, ho, hc, n, hn⟩, _⟩ := I.tuple (ex_t ex h1)
  refine .tup ho hc hn ?_
  have key : ∀ (l : SK) (vs : List V) (its : List Value), Rps X.K I0 (l.map fun x => D.tup [.str x.1, .int x.2]) vs → Vals vs its → NestedAll s.heap (l.map fun x => NestedKey.tup [.text x.1, .num x.2]) its := by
    intro l
    induction l with
    | nil =>
      intro vs its h r
      rw [show vs = [] from h] at r
      cases r
      exact .nil
    | cons x l ih =>
      intro vs its h r
      obtain ⟨v, q, rfl, k1, k2⟩ := h
      cases r with
      | cons r1 r2 =>
        refine .cons ?_ (ih _ _ k2 r2)
        obtain ⟨b, ws, rfl, g1, g2⟩ := k1
        cases r1
        obtain ⟨its2, rr2, ⟨o2, ho2, hc2, n2, hn2⟩, _⟩ := I.tuple (ex_t ex g1)
        obtain ⟨_, _, rfl, rfl, _, _, rfl, rfl, rfl⟩ := g2
        cases rr2 with
        | cons q1 q2 =>
          cases q2 with
          | cons q3 q4 =>
            cases q4
            obtain ⟨t, rfl⟩ := q1
            obtain ⟨t2, rfl⟩ := q3
            exact .tup ho2 hc2 hn2 (by simpa using NestedAll.cons (.text _ _) (.cons (.int _ _) .nil))
  simpa using key l vs its h2 rr
/-! ### the objects -/
def ndO (P : Program) (w : World) (a : Addr) (xs : List (NestedKey × Addr × Value)) : HO := .ext fun h => (a == sysModules) = false ∧ ∃ o es ep, h.get? a = some o ∧ o.ExactDict ∧ o.data = .dict es ep ∧ es.toList = xs.map (entryOfKey (nestedKind P w))
def rdO (a : Addr) (es : Array DictEntry) (ep : Nat) : HO := .ext fun h => (a == sysModules) = false ∧ h.DictRaw a es ep
section
variable {X : Cx} {pins : List (Addr × Obj)} {σ : L2.St} {H : Hp} {s : Shared} {a : Addr} {xs : List (NestedKey × Addr × Value)}
theorem nd_get (I : Inv X pins σ H s) (e : H a = some (ndO X.prog X.w a xs)) : (a == sysModules) = false ∧ ∃ o es ep, s.heap.get? a = some o ∧ o.ExactDict ∧ o.data = .dict es ep ∧ es.toList = xs.map (entryOfKey (nestedKind X.prog X.w)) := (I.hok a _ e).1
theorem nd_new {P : Program} {w : World} {H' : Hp} {h : Heap} (x : (a == sysModules) = false ∧ ∃ o es ep, h.get? a = some o ∧ o.ExactDict ∧ o.data = .dict es ep ∧ es.toList = xs.map (entryOfKey (nestedKind P w))) : ObjOk P w H' h a (ndO P w a xs) := by
  obtain ⟨z, o, es, ep, h1, h2⟩ := id x
  exact ⟨x, ⟨o, h1⟩, fun g1 g2 ⟨z1, o1, e1, p1, q1, q2⟩ k => ⟨z1, o1, e1, p1, k _ q1, q2⟩⟩
theorem rd_new {P : Program} {w : World} {H' : Hp} {h : Heap} {es : Array DictEntry} {ep : Nat} (x : (a == sysModules) = false ∧ h.DictRaw a es ep) : ObjOk P w H' h a (rdO a es ep) := by
  obtain ⟨z, o, h1, h2⟩ := id x
  exact ⟨x, ⟨o, h1⟩, fun g1 g2 ⟨z1, o1, q1, q2⟩ k => ⟨z1, o1, k _ q1, q2⟩⟩
/-- the empty dict is one of these -/
theorem nd_nil (I : Inv X pins σ H s) (e : H a = some (.dK [])) : Inv X pins σ (upd H a (ndO X.prog X.w a [])) s := by
  obtain ⟨z, hd, vs, rel, o, es, ep, h1, h2, h3, h4, h5, h6⟩ := I.hok a _ e
  cases rel
  have hes : es.toList = [] := by
    cases q : es.toList with
    | nil => rfl
    | cons x xs => rw [q] at h5; cases h5
  exact I.write (t' := s.toks) (x := a) (e := a) (by rw [e]; exact True.intro) (.inl rfl) (fun _ _ _ q => q) ⟨o, h1⟩ (nd_new ⟨hd, o, es, ep, h1, h2, h3, by rw [hes]; rfl⟩)
/-- no more keys will come -/
theorem nd_rd (I : Inv X pins σ H s) (e : H a = some (ndO X.prog X.w a xs)) : ∃ es ep, es.toList = xs.map (entryOfKey (nestedKind X.prog X.w)) ∧ Inv X pins σ (upd H a (rdO a es ep)) s := by
  obtain ⟨z, o, es, ep, h1, h2, h3, h4⟩ := nd_get I e
  exact ⟨es, ep, h4, I.write (t' := s.toks) (x := a) (e := a) (by rw [e]; exact True.intro) (.inl rfl) (fun _ _ _ q => q) ⟨o, h1⟩ (rd_new ⟨z, o, h1, h2, h3⟩)⟩
end
section
variable {X : Cx} {o e f : Expr} {td ty tx : TE} {apos cpos : Pos}
def tNSet (X : Cx) (td ty tx : TE) : TE := fun σ H Q => td σ H fun x Ha => ∃ a xs0, x = .ref a ∧ Ha a = some (ndO X.prog X.w a xs0) ∧ ty σ Ha fun y Hb => ∃ b, y = .ref b ∧ tx σ Hb fun z Hc => ∃ m xs k, z = .ref m ∧ Hc a = some (ndO X.prog X.w a xs) ∧
  (∀ pins s, Inv X pins σ Hc s → (∀ x ∈ xs, (nestedKind X.prog X.w).is s.heap x.1 x.2.1) ∧ (nestedKind X.prog X.w).is s.heap k b) ∧ (xs.map (·.1)).Nodup ∧ xs.length ≤ 1000 ∧
  (∀ p, atKey xs k = some p → ∃ v, RelV v p.2 ∧ Q v Hc) ∧ (atKey xs k = none → Q z (upd Hc a (ndO X.prog X.w a (xs ++ [(k, b, Value.ref m)]))))
theorem pe_nset (hu : X.A.units + 64 < cLine) (ho : PE X o td) (he : PE X e ty) (hf : PE X f tx) (m : M2 X o "setdefault" apos e f cpos) : PE X (.Call (.Attribute o "setdefault" apos) [e, f] [] cpos) (tNSet X td ty tx) := by
  refine ⟨fun pins s σ H Q I h => ?_⟩
  refine wpAny_Call_method m.base m.few m.line PySem.F.plainAttrs_dict PySem.F.slot_dict_setdefault PySem.F.type_dict_setdefault (thn (ho.run pins s σ H _ I h) fun u sa ⟨x, Ha, Ia, rx, a, xs0, ex, ea, qa⟩ => ?_)
  subst ex
  obtain rfl : u = Value.ref a := rx
  obtain ⟨_, oa, esa, epa, hoa, hea, hda, _⟩ := nd_get Ia ea
  refine ⟨⟨oa, hoa, hea.1⟩, fun b q => ?_, ?_⟩
  · cases q
    exact ⟨oa, hoa, hea.2.1⟩
  rw [m.trees]
  refine Calls.callWith_builtin rfl (Calls.evalArgs_plain (Calls.spliced_cons (thn (he.run pins sa σ Ha _ Ia qa) fun iv sb ⟨y, Hb, Ib, ry, b, ey, qb⟩ =>
    Calls.spliced_cons (thn (hf.run pins sb σ Hb _ Ib qb) fun fv sc ⟨z, Hc, Ic, rz, mm, xs, k, ez, ec, hkeys, hnd, hl, q1, q2⟩ => Calls.spliced_nil ?_))))
  subst ey ez
  obtain rfl : iv = Value.ref b := ry
  obtain rfl : fv = Value.ref mm := rz
  obtain ⟨hd, oo, es, ep, h1, h2, h3, h4⟩ := nd_get Ic ec
  obtain ⟨k1, k2⟩ := hkeys pins sc Ic
  have hz : xs.length ≤ sizeLine := sz_of (by omega)
  refine call_setdefault_heap (hsz := hz) (show X.A.units + 1 + 8 < cLine by omega) k2 hd ⟨oo, es, ep, h1, h2, h3, h4, k1, hnd⟩ (fun p hp => ?_) (fun hn h' dd' same => ?_)
  · obtain ⟨v, rv, q⟩ := q1 p hp
    exact ⟨v, Hc, Ic.tok _, rv, q⟩
  · rw [storedH_new hn] at dd'
    obtain ⟨o', es', ep', g1, g2, g3, g4, _, _⟩ := dd'
    exact ⟨.ref mm, _, d_write (t' := _) Ic (by rw [ec]; exact True.intro) same ⟨o', g1⟩ (nd_new ⟨hd, o', es', ep', g1, g2, g3, g4⟩), rfl, q2 hn⟩
end
end WL
/-! .. as a cell; its lists become data; a walk over its values. -/
namespace WL
open PySem PySem.Spec PyProof.Rows L2
/-- keys, values, entries -/
inductive Kyd (K : PySem.W.Frag) (I : Hp) : List SK → List V → List (NestedKey × Addr × Value) → Prop
  | nil : Kyd K I [] [] []
  | cons {k : SK} {ks : List SK} {v : V} {vs : List V} {b : Addr} {u : Value} {xs : List (NestedKey × Addr × Value)} : Rp K I (skD k) (.ref b) → RelV v u → Kyd K I ks vs xs → Kyd K I (k :: ks) (v :: vs) ((skN k, b, u) :: xs)
section
variable {K : PySem.W.Frag} {I I' : Hp} {ks : List SK} {vs : List V} {xs : List (NestedKey × Addr × Value)}
theorem Kyd.ex (h : Kyd K I ks vs xs) (e : Ex I I') : Kyd K I' ks vs xs := by
  induction h with
  | nil => exact .nil
  | cons a b _ ih => exact .cons (Rp.ex e _ a) b ih
theorem Kyd.keys (h : Kyd K I ks vs xs) : xs.map (·.1) = ks.map skN := by
  induction h with
  | nil => rfl
  | cons a b _ ih => rw [List.map_cons, List.map_cons, ih]
theorem Kyd.vals (h : Kyd K I ks vs xs) : Vals vs (xs.map (·.2.2)) := by
  induction h with
  | nil => exact .nil
  | cons a b _ ih => exact .cons b ih
theorem Kyd.len (h : Kyd K I ks vs xs) : vs.length = ks.length ∧ xs.length = ks.length := by
  induction h with
  | nil => exact ⟨rfl, rfl⟩
  | cons a b _ ih => exact ⟨by rw [List.length_cons, List.length_cons, ih.1], by rw [List.length_cons, List.length_cons, ih.2]⟩
theorem Kyd.snoc (h : Kyd K I ks vs xs) {k : SK} {v : V} {b : Addr} {u : Value} (a : Rp K I (skD k) (.ref b)) (r : RelV v u) : Kyd K I (ks ++ [k]) (vs ++ [v]) (xs ++ [(skN k, b, u)]) := by
  induction h with
  | nil => exact .cons a r .nil
  | cons a' b' _ ih => exact .cons a' b' ih
theorem Kyd.is {X : Cx} {pins : List (Addr × Obj)} {σ : L2.St} {H I0 : Hp} {s : Shared} (Iv : Inv X pins σ H s) (ex : Ex I0 H) {ks : List SK} {vs : List V} {xs : List (NestedKey × Addr × Value)} (h : Kyd X.K I0 ks vs xs) : ∀ x ∈ xs, (nestedKind X.prog X.w).is s.heap x.1 x.2.1 := by
  induction h with
  | nil => intro x hx; cases hx
  | cons a b _ ih =>
    intro x hx
    rcases List.mem_cons.mp hx with rfl | hx
    · exact ⟨sk_nest Iv ex a rfl, skN_depth _⟩
    · exact ih x hx
theorem Kyd.at_ (h : Kyd K I ks vs xs) {k : SK} {p : Addr × Value} (e : atKey xs (skN k) = some p) : ∃ (i : Nat) (v : V), ks[i]? = some k ∧ vs[i]? = some v ∧ RelV v p.2 := by
  induction h with
  | nil => simp [atKey] at e
  | @cons k2 ks v vs b u xs a r _ ih =>
    by_cases q : skN k2 = skN k
    · have : p = (b, u) := by simpa [atKey, List.find?_cons, q] using e.symm
      subst this
      exact ⟨0, v, by rw [skN_inj q]; rfl, rfl, r⟩
    · have e2 : atKey xs (skN k) = some p := by simpa [atKey, List.find?_cons, q] using e
      obtain ⟨i, v2, h1, h2, h3⟩ := ih e2
      exact ⟨i + 1, v2, by simpa using h1, by simpa using h2, h3⟩
theorem Kyd.no (h : Kyd K I ks vs xs) {k : SK} (e : atKey xs (skN k) = none) : k ∉ ks := fun hm => by
  have : skN k ∈ xs.map (·.1) := by rw [h.keys]; exact List.mem_map_of_mem hm
  obtain ⟨x, hx, hk⟩ := List.mem_map.mp this
  have e : (xs.find? fun x => decide (x.1 = skN k)) = none := by
    unfold atKey at e
    simpa using e
  have := List.find?_eq_none.mp e x hx
  simp [hk] at this
end
def NDr (K : PySem.W.Frag) (P : Program) (w : World) (ks : List SK) : Hp → List V → Addr → HO → Prop := fun I vs a o => ∃ xs, o = ndO P w a xs ∧ Kyd K I ks vs xs
abbrev ndC (K : PySem.W.Frag) (P : Program) (w : World) (ks : List SK) (ws : List W) : Cell := .xw (NDr K P w ks) ws
section
variable {Y : Cy} {ρ : Ρ} {c : List Cell} {Q : KQ} {o e f : Expr} {apos cpos : Pos} {P : Program} {wd : World} {K : PySem.W.Frag}
/-- the empty dict becomes one of these -/
theorem wss_nd0 {n0 n : Nat} {Z : EndsW} {ss : List Stmt} (hP : Y.X.prog = P) (hw : Y.X.w = wd) (hn : c[n]? = some (.dic [] [])) (h : WSs Y n0 ρ (c.set n (ndC K P wd [] [])) ss Z) : WSs Y n0 ρ c ss Z := fun κ0 κ σ h0 l hc ok r De E => by
  subst hP; subst hw
  obtain ⟨a, ha⟩ : ∃ a, κ.th[n]? = some a := by
    have : n < κ.th.length := by rw [ok.len, hc]; exact (List.getElem?_eq_some_iff.mp hn).1
    exact ⟨_, List.getElem?_eq_getElem this⟩
  have hn' : κ.c[n]? = some (.dic [] []) := by rw [hc]; exact hn
  obtain ⟨vs, g1, g2, g3⟩ := ok.cl n a _ ha hn'
  have g1 : κ.H a = some (.dK []) := g1
  have lp := Wd.put_le ok (u := ndO Y.X.prog Y.X.w a []) (k := ndC K Y.X.prog Y.X.w [] []) ha
  have op := ok.put (u := ndO Y.X.prog Y.X.w a []) (k := ndC K Y.X.prog Y.X.w [] []) ha ⟨_, [], upd_same, rfl, fun I' _ => ⟨[], rfl, .nil⟩⟩
  intro pins s I
  exact h κ0 ⟨κ.I, upd κ.H a (ndO Y.X.prog Y.X.w a []), κ.th, κ.c.set n (ndC K Y.X.prog Y.X.w [] [])⟩ σ h0 (l.trans lp) (by show κ.c.set n _ = _; rw [hc]) op (r.le lp) De E pins s (nd_nil I g1)
theorem RWs.snoc {I : Hp} {th : List Addr} : ∀ {ws : List W} {vs : List V} {w : W} {v : V}, RWs K I th ws vs → RW K I th w v → RWs K I th (ws ++ [w]) (vs ++ [v])
  | [], _, _, _, h, g => by rw [show _ = [] from h]; exact ⟨_, _, rfl, g, rfl⟩
  | _ :: _, _, _, _, ⟨v, r, h1, h2, h3⟩, g => by rw [h1]; exact ⟨v, _, rfl, h2, RWs.snoc h3 g⟩
theorem we_nset (hP : Y.X.prog = P) (hw : Y.X.w = wd) (hK : Y.X.K = K) (hu : Y.X.A.units + 64 < cLine) (m : M2 Y.X o "setdefault" apos e f cpos) (h : WE Y ρ c o fun wo c1 => ∃ n ks0 ws0, wo = .ce n ∧ c1[n]? = some (ndC K P wd ks0 ws0) ∧ WE Y ρ c1 e fun w2 c2 => ∃ k : SK, w2 = .im (skD k) ∧ WE Y ρ c2 f fun w3 c3 =>
      ∃ mm ks ws, w3 = .ce mm ∧ c3[n]? = some (ndC K P wd ks ws) ∧ ks.Nodup ∧ ks.length ≤ 1000 ∧ (∀ i : Nat, ks[i]? = some k → ∃ wv, ws[i]? = some wv ∧ Q wv c3) ∧ (k ∉ ks → Q (.ce mm) (c3.set n (ndC K P wd (ks ++ [k]) (ws ++ [.ce mm]))))) :
    WE Y ρ c (.Call (.Attribute o "setdefault" apos) [e, f] [] cpos) Q := fun κ σ hc ok r g Q' G => by
  subst hP; subst hw; subst hK
  refine PE.w (pe_nset hu pe_w pe_w pe_w m) (h.bind hc ok r g fun v wo κ1 l1 o1 r1 g1 rw1 ⟨n, ks0, ws0, ew, hn, q1⟩ => ?_)
  subst ew
  obtain ⟨a, ha, rfl⟩ := rw1
  obtain ⟨u0, vs0, gu0, _, rb0⟩ := o1.cl n a _ ha hn
  obtain ⟨xs0, eu0, _⟩ := rb0 _ (Ex.refl _)
  refine ⟨a, xs0, rfl, by rw [gu0, eu0], ?_⟩
  refine q1.bind rfl o1 r1 g1 fun v2 w2 κ2 l2 o2 r2 g2 rw2 ⟨k, ek, q2⟩ => ?_
  subst ek
  obtain ⟨b, vb, rfl, hb1, hb2⟩ := rw2
  have hbk : Rp Y.X.K κ2.I (skD k) (.ref b) := ⟨b, vb, rfl, hb1, hb2⟩
  refine ⟨b, rfl, ?_⟩
  refine q2.bind rfl o2 r2 g2 fun v3 w3 κ3 l3 o3 r3 g3 rw3 ⟨mm, ks, ws, e3, hn3, hnd, hl, qa, qb⟩ => ?_
  subst e3
  obtain ⟨p, hp, rfl⟩ := rw3
  have ha3 : κ3.th[n]? = some a := l3.th _ _ (l2.th _ _ ha)
  obtain ⟨u, vs, gu, rws, rb⟩ := o3.cl n a _ ha3 hn3
  obtain ⟨xs, eu, ky⟩ := rb _ (Ex.refl _)
  have hbk3 := Rp.ex l3.ii _ hbk
  have hlen := ky.len
  refine ⟨p, xs, skN k, rfl, by rw [gu, eu], fun pins s Iv => ⟨ky.is Iv o3.ex, sk_nest Iv o3.ex hbk3 rfl, skN_depth _⟩, ?_, by omega, fun q hq => ?_, fun hq => ?_⟩
  · rw [ky.keys]
    exact List.Pairwise.map _ (fun x y hxy e => hxy (skN_inj e)) hnd
  · obtain ⟨i, v, h1, h2, h3⟩ := ky.at_ hq
    obtain ⟨wv, h4, h5⟩ := qa i h1
    obtain ⟨v', h6, h7⟩ := rws.get h4
    rw [h2] at h6; cases h6
    exact ⟨v, h3, G v wv κ3 ((l1.trans l2).trans l3) o3 h7 h5⟩
  · have hno := ky.no hq
    have lp := Wd.put_le o3 (u := ndO Y.X.prog Y.X.w a (xs ++ [(skN k, b, Value.ref p)])) (k := ndC Y.X.K Y.X.prog Y.X.w (ks ++ [k]) (ws ++ [.ce mm])) ha3
    have op := o3.put (u := ndO Y.X.prog Y.X.w a (xs ++ [(skN k, b, Value.ref p)])) (k := ndC Y.X.K Y.X.prog Y.X.w (ks ++ [k]) (ws ++ [.ce mm])) ha3
      ⟨_, vs ++ [V.ref p], upd_same, RWs.snoc rws (show RW Y.X.K κ3.I κ3.th (.ce mm) (.ref p) from ⟨p, hp, rfl⟩), fun I' ex => ⟨_, rfl, (ky.ex ex).snoc (Rp.ex ex _ hbk3) rfl⟩⟩
    exact G (.ref p) (.ce mm) ⟨κ3.I, upd κ3.H a (ndO Y.X.prog Y.X.w a (xs ++ [(skN k, b, Value.ref p)])), κ3.th, κ3.c.set n (ndC Y.X.K Y.X.prog Y.X.w (ks ++ [k]) (ws ++ [.ce mm]))⟩ (((l1.trans l2).trans l3).trans lp) op ⟨p, hp, rfl⟩ (qb hno)
end
/-! ### a walk over the values -/
def ItR (d : Addr) (es : Array DictEntry) (ep : Nat) (vs : List V) : It :=
  ⟨fun i H => H d = some (rdO d es ep) ∧ i < vs.length, fun i H x H' => H' = H ∧ vs[i]? = some x, fun i H => H d = some (rdO d es ep) ∧ vs.length ≤ i⟩
theorem vals_at {es : Array DictEntry} {vs : List V} (h : Vals vs (es.toList.map (·.val))) : vs.length = es.size ∧ ∀ (i : Nat) (hi : i < es.size), ∃ v, vs[i]? = some v ∧ RelV v es[i].val := by
  have hl := h.length
  refine ⟨by simpa using hl, fun i hi => ?_⟩
  obtain ⟨v, hv⟩ : ∃ v, vs[i]? = some v := ⟨_, List.getElem?_eq_getElem (by rw [hl]; simpa using hi)⟩
  obtain ⟨u, hu, ru⟩ := h.get hv
  have : u = es[i].val := by
    rw [List.getElem?_map] at hu
    simp [hi] at hu
    exact hu.symm
  subst this
  exact ⟨v, hv, ru⟩
theorem turn_valsR {P : Program} {w : World} {K : PySem.W.Frag} {tg : Expr} {d : Addr} {es : Array DictEntry} {ep : Nat} {vs : List V} (it : Addr) (hv : Vals vs (es.toList.map (·.val))) : Turn P w K tg (ItR d es ep vs) [it] it (fun i h => h.IsValIter it d i es.size ep) where
  mem := by simp
  obj := fun i h st b hb => by
    obtain rfl : b = it := by simpa using hb
    obtain ⟨oi, e, c, dd⟩ := st
    exact ⟨oi, e, fun v z => by rw [dd] at z; cases z⟩
  keep := fun i h h' st k => st.at fun oi e => k it (by simp) oi e
  item := by
    intro X hP hw hK hc i pins s σ H E I hf st hg
    subst hP hw hK
    obtain ⟨hd, hi⟩ := hg
    obtain ⟨f0, f1, f2, f3, f4, f5⟩ := hf it (by simp)
    obtain ⟨⟨_, raw⟩, _⟩ := I.hok d _ hd
    obtain ⟨hl, hat⟩ := vals_at hv
    have hi2 : i < es.size := by omega
    obtain ⟨v, hv1, hv2⟩ := hat i hi2
    refine wpAny_pyNext_values_item_raw st raw hi2 fun h' st' same => ?_
    have Ik : Inv X pins σ H { s with heap := h' } := I.turned (t' := s.toks) (fun b ob hb e => (same.2 b hb).trans e) f0 f1 f3 f4 f5
    obtain ⟨oi, e, c, dd⟩ := id st'
    exact ⟨es[i].val, rfl, go_of (s := { s with heap := h' }) e c dd (by decide) ⟨v, H, Ik, hv2, ⟨rfl, hv1⟩, st', fun b hb => (hf b hb).1⟩⟩
  done := by
    intro X hP hw hK hc i pins s σ H E I hf st hg
    subst hP hw hK
    obtain ⟨hd, hi⟩ := hg
    obtain ⟨f0, f1, f2, f3, f4, f5⟩ := hf it (by simp)
    obtain ⟨⟨_, raw⟩, _⟩ := I.hok d _ hd
    obtain ⟨hl, hat⟩ := vals_at hv
    exact wpAny_pyNext_values_end_raw (I.ok.hd hc) st raw (by omega) fun h' eb => ⟨rfl, I.turned (t' := s.toks) (fun b ob hb e => eb b ob hb e) f0 f1 f3 f4 f5⟩
  self := fun A i s Q E st h => wpAny_pyIter_valiter st h
def iValsR (td : TE) : TI := fun σ H R => td σ H fun x Ha => ∃ d es ep vs, x = .ref d ∧ Ha d = some (rdO d es ep) ∧ Vals vs (es.toList.map (·.val)) ∧ R (ItR d es ep vs) Ha
theorem pi_valsR {X : Cx} {tg e : Expr} {td : TE} {apos cpos : Pos} (he : PE X e td) (hbase : attributeBase e "values" X.env (eval e X.env) = eval e X.env) (hline : (apos.endLine == cpos.line) = true) : PI X tg (.Call (.Attribute e "values" apos) [] [] cpos) (iValsR td) := by
  refine ⟨fun pins s σ H R I h => ?_⟩
  refine wpAny_Call_method (T := "dict") (id := "dict.values") hbase rfl hline F.plainAttrs_dict F.slot_dict_values F.type_dict_values (thn (he.run pins s σ H _ I h) fun u sa ⟨x, Ha, Ia, rx, d, es, ep, vs, ex, hd, hvs, q⟩ => ?_)
  subst ex
  obtain rfl : u = Value.ref d := rx
  obtain ⟨⟨hs, raw⟩, _⟩ := Ia.hok d _ hd
  obtain ⟨od, hod, hcd, hdd⟩ := id raw
  refine ⟨raw.typeIs, fun b z => ?_, ?_⟩
  · cases z
    exact ⟨od, hod, hcd.2.1⟩
  have Ib : Inv X pins σ Ha { sa with heap := sa.heap.push { cls := .type "dict_values", data := .fields #[.ref d] } } := Ia.kept (t' := sa.toks) fun b ob q => Heap.get?_push_of_some _ q
  have fin : wpAny (model X.prog X.w) X.A (pyIter (.ref sa.heap.objs.size)) (PIE X pins σ tg R) X.xe { sa with heap := sa.heap.push { cls := .type "dict_values", data := .fields #[.ref d] } } :=
    wpAny_pyIter_values_raw (d := d) ⟨_, Heap.get?_push_size _ rfl, rfl, rfl⟩ (raw.at fun oo q => Heap.get?_push_of_some _ q) (pi_one (tk := sa.toks) Ib _ (turn_valsR _ hvs) ⟨_, Heap.get?_push_size _ rfl, rfl, rfl⟩ q)
  show wpAny _ _ (callWith cpos (.builtin "dict.values") [.ref d] [] []) _ X.xe sa
  exact method_meetsIn F.slot_dict_values F.entry_dict_values rfl (PySem.evalArgs_none ⟨rfl, raw.typeIs, F.args_dict_values_1 _, _, meets_dict_values_raw d hs, ⟨es, ep, raw⟩, fin⟩)
end WL
/-! The dict's lists become data; a comprehension over its values. -/
namespace WL
open PySem PySem.Spec PyProof.Rows L2
theorem list_choice {α : Type} {Φ : Nat → α → Prop} : ∀ m : Nat, (∀ j, j < m → ∃ p, Φ j p) → ∃ ps : List α, ps.length = m ∧ ∀ (j : Nat) p, ps[j]? = some p → Φ j p
  | 0, _ => ⟨[], rfl, fun j p h => by simp at h⟩
  | m + 1, h => by
    obtain ⟨ps, hl, hp⟩ := list_choice m fun j hj => h j (by omega)
    obtain ⟨q, hq⟩ := h m (by omega)
    refine ⟨ps ++ [q], by simp [hl], fun j p e => ?_⟩
    by_cases hj : j < ps.length
    · rw [List.getElem?_append_left hj] at e; exact hp j p e
    · have hj2 := (List.getElem?_eq_some_iff.mp e).1
      rw [List.length_append, List.length_singleton] at hj2
      have : j = m := by omega
      subst this
      rw [List.getElem?_append_right (by omega), hl, Nat.sub_self] at e
      have : q = p := by simpa using e
      subst this
      exact hq
theorem Wd.adoptAll {K : PySem.W.Frag} {κ0 : Wd} : ∀ (ps : List (Addr × List V × List D)) (κ : Wd), κ0.le κ → κ.Ok K → (ps.map (·.1)).Nodup → (∀ p ∈ ps, Side κ p.1 (.lst p.2.1) ∧ κ0.H p.1 = none ∧ Rps K κ.I p.2.2 p.2.1) →
    ∃ I', Ex κ.I I' ∧ Wd.Ok K ⟨I', κ.H, κ.th, κ.c⟩ ∧ κ0.le ⟨I', κ.H, κ.th, κ.c⟩ ∧ (∀ p ∈ ps, Rp K I' (.lst p.2.2) (.ref p.1)) ∧ ∀ q, q ∉ ps.map (·.1) → I' q = κ.I q
  | [], κ, l, o, _, _ => ⟨κ.I, Ex.refl _, o, l, fun p hp => (by cases hp), fun q _ => rfl⟩
  | p :: ps, κ, l, o, hnd, h => by
    obtain ⟨s, h0, rp⟩ := h p List.mem_cons_self
    obtain ⟨o2, ee⟩ := o.adopt s
    have l2 := l.adopt s h0
    rw [List.map_cons, List.nodup_cons] at hnd
    obtain ⟨I', e3, o3, l3, r3, k3⟩ := Wd.adoptAll ps ⟨upd κ.I p.1 (.lst p.2.1), κ.H, κ.th, κ.c⟩ l2 o2 hnd.2 fun q hq => by
      obtain ⟨s2, h2, rp2⟩ := h q (List.mem_cons_of_mem _ hq)
      have hne : q.1 ≠ p.1 := fun e => hnd.1 (by rw [← e]; exact List.mem_map_of_mem hq)
      exact ⟨⟨by show upd κ.I p.1 _ q.1 = none; rw [upd_ne hne]; exact s2.i, s2.t, s2.h⟩, h2, Rps.ex ee _ rp2⟩
    refine ⟨I', ee.trans e3, o3, l3, fun q hq => ?_, fun q hq => ?_⟩
    · rcases List.mem_cons.mp hq with rfl | hq
      · exact Rp.ex e3 (.lst _) ⟨q.1, q.2.1, rfl, upd_same, Rps.ex ee _ rp⟩
      · exact r3 q hq
    · rw [List.map_cons, List.mem_cons, not_or] at hq
      rw [k3 q hq.2]
      exact upd_ne hq.1
def RDr (K : PySem.W.Frag) (es : Array DictEntry) (ep : Nat) (Ls : List (List D)) : Hp → Addr → HO → Prop := fun I a o => o = rdO a es ep ∧ ∃ vs, Vals vs (es.toList.map (·.val)) ∧ Rps K I (Ls.map D.lst) vs
abbrev rdC (K : PySem.W.Frag) (es : Array DictEntry) (ep : Nat) (Ls : List (List D)) : Cell := .xo (RDr K es ep Ls)
section
variable {Y : Cy} {ρ : Ρ} {c : List Cell} {Q : KQ} {P : Program} {wd : World} {K : PySem.W.Frag}
theorem wss_ndfrz {n0 : Nat} {Z : EndsW} {sts : List Stmt} {ks : List SK} {ix : List Nat} {ls : List (List D)} (hP : Y.X.prog = P) (hw : Y.X.w = wd) (hK : Y.X.K = K) (h0 : n0 ≤ c.length) (hcl : clo c.length c = true)
    (hρ : ∀ (i : Nat) w, ρ[i]? = some (some w) → w.below (c.length + 1) = true) (hix : ∀ j ∈ ix, j < ls.length)
    (h : ∀ es ep, WSs Y n0 ρ (c ++ [rdC K es ep (ix.map fun j => ls.getD j [])]) sts Z) : WSs Y n0 ρ (c ++ [ndC K P wd ks (ix.map fun j => .ce (c.length + 1 + j))] ++ ls.map Cell.lst) sts Z := fun κ0 κ σ hl le hc o r De E => by
  subst hP; subst hw; subst hK
  intro pins s Iv
  have hlen : κ.th.length = c.length + 1 + ls.length := by rw [o.len, hc]; simp; omega
  obtain ⟨a, ha⟩ : ∃ a, κ.th[c.length]? = some a := ⟨_, List.getElem?_eq_getElem (by omega)⟩
  have hca : κ.c[c.length]? = some (ndC Y.X.K Y.X.prog Y.X.w ks (ix.map fun j => .ce (c.length + 1 + j))) := by rw [hc]; simp
  obtain ⟨u, vs, gu, rws, rb⟩ := o.cl _ a _ ha hca
  obtain ⟨xs, eu, ky0⟩ := rb _ (Ex.refl _)
  obtain ⟨ps, hpl, hps⟩ := list_choice (Φ := fun j (p : Addr × List V × List D) => κ.th[c.length + 1 + j]? = some p.1 ∧ κ.H p.1 = some (.lst p.2.1) ∧ ls[j]? = some p.2.2 ∧ Rps Y.X.K κ.I p.2.2 p.2.1) ls.length fun j hj => by
    obtain ⟨b, hb⟩ : ∃ b, κ.th[c.length + 1 + j]? = some b := ⟨_, List.getElem?_eq_getElem (by omega)⟩
    have hcb : κ.c[c.length + 1 + j]? = some (.lst ls[j]) := by
      rw [hc, List.getElem?_append_right (by rw [List.length_append, List.length_singleton]; omega)]
      have : c.length + 1 + j - (c ++ [ndC Y.X.K Y.X.prog Y.X.w ks (ix.map fun j => .ce (c.length + 1 + j))]).length = j := by simp
      rw [this, List.getElem?_map, List.getElem?_eq_getElem hj]
      rfl
    obtain ⟨ws, g1, g2⟩ := o.cl _ b _ hb hcb
    exact ⟨(b, ws, ls[j]), hb, g1, List.getElem?_eq_getElem hj, g2⟩
  have hidx : ∀ {i j : Nat} {b : Addr}, κ.th[i]? = some b → κ.th[j]? = some b → i = j := fun {i j b} h1 h2 => by
    obtain ⟨l1, e1⟩ := List.getElem?_eq_some_iff.mp h1
    obtain ⟨l2, e2⟩ := List.getElem?_eq_some_iff.mp h2
    exact (List.getElem_inj o.nd).mp (e1.trans e2.symm)
  have hn0 : κ0.th.length ≤ c.length := by omega
  have hnd : (ps.map (·.1)).Nodup := by
    refine List.pairwise_iff_getElem.mpr fun i j hi0 hj0 hij e => ?_
    have hi : i < ps.length := by rw [List.length_map] at hi0; exact hi0
    have hj : j < ps.length := by rw [List.length_map] at hj0; exact hj0
    have e : ps[i].1 = ps[j].1 := by simpa using e
    have q1 := (hps i _ (List.getElem?_eq_getElem hi)).1
    have q2 := (hps j _ (List.getElem?_eq_getElem hj)).1
    rw [e] at q1
    have := hidx q1 q2
    omega
  have hcl2 : clo c.length κ.c = true := by rw [hc, List.append_assoc, clo_take (Nat.le_refl _)]; exact hcl
  have oA := o.take hcl2
  have lA := le.takeM hn0
  obtain ⟨I', e3, o3, l3, r3, k3⟩ := Wd.adoptAll ps _ lA oA hnd fun p hp => by
    obtain ⟨j, hj, rfl⟩ := List.getElem_of_mem hp
    obtain ⟨q1, q2, q3, q4⟩ := hps j _ (List.getElem?_eq_getElem hj)
    exact ⟨o.pastM (by omega) q1 q2, le.newer o (by omega) q1, q4⟩
  have haP : a ∉ ps.map (·.1) := fun hm => by
    obtain ⟨p, hp, e⟩ := List.mem_map.mp hm
    obtain ⟨j, hj, rfl⟩ := List.getElem_of_mem hp
    have q1 := (hps j _ (List.getElem?_eq_getElem hj)).1
    rw [e] at q1
    have := hidx q1 ha
    omega
  have sA := o.pastM (m := c.length) (Nat.le_refl _) ha gu
  have sB : Side ⟨I', κ.H, κ.th.take c.length, κ.c.take c.length⟩ a u := ⟨(k3 a haP).trans sA.i, sA.t, sA.h⟩
  have a0 : κ0.H a = none := le.newer o hn0 ha
  subst eu
  obtain ⟨es, ep, hes, I2⟩ := nd_rd Iv gu
  obtain ⟨oC, sC⟩ := o3.side (u' := rdO a es ep) sB
  have lC := Wd.le.side (u' := rdO a es ep) l3 sB a0
  have hvals : Vals vs (es.toList.map (·.val)) := by
    rw [hes, List.map_map]
    exact ky0.vals
  have hrps : Rps Y.X.K I' ((ix.map fun j => ls.getD j []).map D.lst) vs := by
    clear hca rb hvals h hc ky0
    induction ix generalizing vs with
    | nil => rw [show vs = [] from rws]; exact Rps.nil
    | cons j ix ih =>
      obtain ⟨v, q, rfl, ⟨b, hb, rfl⟩, h3⟩ := rws
      have hj := hix j List.mem_cons_self
      refine Rps.cons ?_ (ih (fun j hj => hix j (List.mem_cons_of_mem _ hj)) _ h3)
      have hjp : j < ps.length := by omega
      obtain ⟨q1, _, q3, _⟩ := hps j _ (List.getElem?_eq_getElem hjp)
      rw [hb] at q1
      have e1 : b = ps[j].1 := Option.some.inj q1
      have q := r3 _ (List.getElem_mem hjp)
      have e2 : ls.getD j [] = ps[j].2.2 := by rw [List.getD_eq_getElem?_getD, q3]; rfl
      show Rp Y.X.K I' (.lst (ls.getD j [])) (.ref b)
      rw [e1, e2]
      exact q
  have oD := oC.enter sC (k := rdC Y.X.K es ep (ix.map fun j => ls.getD j [])) ⟨_, sC.h, fun I'' ex => ⟨rfl, vs, hvals, Rps.ex ex _ hrps⟩⟩
  have lD := Wd.le.enter lC sC a0 (k := rdC Y.X.K es ep (ix.map fun j => ls.getD j []))
  have hth : κ.th.take c.length ++ [a] = κ.th.take (c.length + 1) := by rw [List.take_add_one, ha]; rfl
  refine h es ep κ0 _ σ hl lD ?_ oD ⟨r.len, fun i w hi => ?_⟩ De E pins s I2
  · show κ.c.take c.length ++ [_] = _
    rw [hc, List.append_assoc, take_app]
  · obtain ⟨v, h1, h2⟩ := r.at_ i w hi
    refine ⟨v, h1, ?_⟩
    have hb := hρ i w hi
    cases w with
    | im d => exact Rp.ex e3 d h2
    | ce m =>
      obtain ⟨b, hb1, hb2⟩ := h2
      refine ⟨b, ?_, hb2⟩
      show (κ.th.take c.length ++ [a])[m]? = some b
      rw [hth, List.getElem?_take, if_pos (of_decide_eq_true hb)]
      exact hb1
theorem itr_at {κ : Wd} {n : Nat} {es : Array DictEntry} {ep : Nat} {Ls : List (List D)} {a : Addr} {vs : List V} (o : κ.Ok K) (ha : κ.th[n]? = some a) (hc : κ.c[n]? = some (rdC K es ep Ls)) (hv : Vals vs (es.toList.map (·.val))) : κ.H a = some (rdO a es ep) ∧ vs.length = Ls.length := by
  obtain ⟨u, gu, rb⟩ := o.cl n a _ ha hc
  obtain ⟨eu, ws, h1, h2⟩ := rb _ (Ex.refl _)
  refine ⟨by rw [gu, eu], ?_⟩
  have l1 := hv.length
  have l2 := h1.length
  have l3 := h2.len
  rw [List.length_map] at l3
  omega
end
end WL
/-! [x for x in d.values() if ..], the dict a cell. -/
namespace WL
open PySem PySem.Spec PyProof.Rows L2
section
variable {Y : Cy} {ρ : Ρ} {c : List Cell} {Q : KQ} {K : PySem.W.Frag}
theorem we_lcV {elt tg e cond : Expr} {scope : Scope} {own : List (Str × Nat)} {apos cpos pos : Pos} (t : Tgt) (p : D → Bool) (hK : Y.X.K = K) (hcm : Y.X.calm = true) (hN : Y.X.N.Nodup) (ok : BlkOk Y.X.N Y.X.env.scope scope own) (hv : ∀ i ∈ t.slots, i ∈ own.map (·.2))
    (hg : ∀ b : Blk, PG (Y.blk scope b).X tg (t.g Y.X.K)) (hbase : attributeBase e "values" Y.X.env (eval e Y.X.env) = eval e Y.X.env) (hline : (apos.endLine == cpos.line) = true) (hs : ∀ x, foldedSetIterable (.Call (.Attribute e "values" apos) [] [] cpos) Y.X.env x = pure x)
    (h : WE Y ρ c e fun w c1 => ∃ n es ep Ls, w = .ce n ∧ c1[n]? = some (rdC K es ep Ls) ∧ Ls.length ≤ 100000 ∧ (∀ (i : Nat) L, Ls[i]? = some L → t.fits (.lst L) ∧ (∀ b : Blk, WT (Y.blk scope b) (t.bind (wipeW ρ (own.map (·.2))) (.lst L)) c1 cond fun k c2 => k = p (.lst L) ∧ c2 = c1) ∧
        ∀ b : Blk, WE (Y.blk scope b) (t.bind (wipeW ρ (own.map (·.2))) (.lst L)) c1 elt fun w c3 => w = .im (.lst L) ∧ c3 = c1) ∧ Q (.im (.lst ((Ls.map D.lst).filter p))) c1) :
    WE Y ρ c (.ListComp elt [⟨tg, .Call (.Attribute e "values" apos) [] [] cpos, [cond], 0⟩] scope pos) Q := fun κ σ hc o r g Q' G => by
  subst hK
  refine PE.w (pe_lc hcm hN (pi_valsR pe_w hbase hline) ok (fun s H C cl fp => hg ⟨s, H, C, cl, fp⟩) (fun s H C cl fp => (⟨fun pins s1 σ1 H1 Q1 I1 h1 => h1 ⟨s, H, C, cl, fp⟩ pins s1 I1⟩ : PTs _ _ fun σ H Q => ∀ b : Blk, wTs (Y.blk scope b).X [cond] σ H Q)) (fun s H C cl fp => (⟨fun pins s1 σ1 H1 Q1 I1 h1 => h1 ⟨s, H, C, cl, fp⟩ pins s1 I1⟩ : PE _ _ fun σ H Q => ∀ b : Blk, wE (Y.blk scope b).X elt σ H Q)) hs) ?_
  refine h.bind hc o r g fun v w κ1 l1 o1 r1 g1 rw1 ⟨n, es, ep, Ls, ew, hcn, hl, turn, q⟩ => ?_
  subst ew
  obtain ⟨a, ha, rfl⟩ := rw1
  obtain ⟨u, gu, rb⟩ := o1.cl n a _ ha hcn
  obtain ⟨eu, vs, hvs, hrp⟩ := rb _ (Ex.refl _)
  have hvl := hrp.len
  rw [List.length_map] at hvl
  refine ⟨a, es, ep, vs, rfl, by rw [gu, eu], hvs, fun Dl hD => ?_⟩
  have hD0 : κ.H Dl = none := by
    cases z : κ.H Dl with
    | none => rfl
    | some x => exact absurd hD (l1.hd Dl (by rw [z]; intro z; cases z))
  refine ⟨fun i m H' => m = Ls.length - i ∧ i ≤ Ls.length ∧ ∃ κ' xs, κ1.le κ' ∧ κ'.Ok Y.X.K ∧ Side κ' Dl (.lst xs) ∧ Rps Y.X.K κ'.I (((Ls.take i).map D.lst).filter p) xs ∧ κ'.c = κ1.c ∧ κ'.H = H',
    ⟨Ls.length, by simp, Nat.zero_le _, ⟨κ1.I, upd κ1.H Dl (.lst []), κ1.th, κ1.c⟩, [], Wd.aux_le hD, o1.aux hD, Side.new o1 hD, Rps.nil, rfl, rfl⟩, ?_⟩
  rintro i m H' ⟨rfl, hi, κ', xs, l', o', s', ra, cc, rfl⟩
  have hH := (itr_at o' (l'.th n a ha) (by rw [cc]; exact hcn) hvs).1
  by_cases hlt : i < Ls.length
  · have hd : Ls[i]? = some Ls[i] := List.getElem?_eq_getElem hlt
    refine .inr ⟨⟨hH, by omega⟩, fun H2 => ∃ κ2 xs, κ1.le κ2 ∧ κ2.Ok Y.X.K ∧ Side κ2 Dl (.lst xs) ∧ Rps Y.X.K κ2.I (((Ls.take (i + 1)).map D.lst).filter p) xs ∧ κ2.c = κ1.c ∧ κ2.H = H2, fun H2 ⟨κ2, xs2, a1, a2, a3, a4, a5, a6⟩ => ⟨Ls.length - (i + 1), by omega, rfl, hlt, κ2, xs2, a1, a2, a3, a4, a5, a6⟩, fun x H2 y => ?_⟩
    obtain ⟨rfl, hx⟩ := y
    obtain ⟨x', hx', rp⟩ := hrp.get (i := i) (d := .lst Ls[i]) (by rw [List.getElem?_map, hd]; rfl)
    rw [hx] at hx'; cases hx'
    have rp := Rp.ex l'.ii _ rp
    obtain ⟨hf, hb, he⟩ := turn i _ hd
    have r2 : REnv Y.X.K κ' (L2.wipe σ (own.map (·.2))) (wipeW ρ (own.map (·.2))) := (r.le (l1.trans l')).wipe _
    refine Tgt.go hf o' rp r2 fun σ3 hw r3 => ⟨by rw [hw _ hv, wipe_wipe], fun b => ?_⟩
    refine wts_one (hb b) κ' σ3 cc o' r3 GoX.blk _ fun k κ3 l3 o3 ⟨ek, ec3⟩ => ?_
    have htk : (Ls.take (i + 1)).map D.lst = (Ls.take i).map D.lst ++ [.lst Ls[i]] := by rw [take_succ_get hd, List.map_append]; rfl
    rw [htk, List.filter_append]
    cases k with
    | true =>
      rw [if_pos rfl]
      intro b2
      refine he b2 κ3 σ3 ec3 o3 (r3.le l3) GoX.blk _ fun v4 w4 κ4 l4 o4 rw4 ⟨ew, ec4⟩ => ?_
      subst ew
      have s4 := (s'.le l3).le l4
      have hxl : xs.length ≤ Ls.length := by
        rw [ra.len]
        refine Nat.le_trans (List.length_filter_le _ _) ?_
        rw [List.length_map, List.length_take]; exact Nat.min_le_right _ _
      refine ⟨xs, s4.h, Nat.lt_of_le_of_lt (show _ ≤ 100000 by omega) (by decide), ?_⟩
      obtain ⟨o5, s5⟩ := o4.side (u' := .lst (xs ++ [v4])) s4
      refine ⟨⟨κ4.I, upd κ4.H Dl (.lst (xs ++ [v4])), κ4.th, κ4.c⟩, xs ++ [v4], Wd.le.side ((l'.trans l3).trans l4) s4 hD, o5, s5, ?_, ec4, rfl⟩
      have : [D.lst Ls[i]].filter p = [.lst Ls[i]] := by simp [ek.symm]
      rw [this]
      exact Rps.snoc (Rps.ex (l3.trans l4).ii _ ra) rw4
    | false =>
      rw [if_neg Bool.false_ne_true]
      have : [D.lst Ls[i]].filter p = [] := by simp [ek.symm]
      rw [this, List.append_nil]
      exact ⟨κ3, xs, l'.trans l3, o3, s'.le l3, Rps.ex l3.ii _ ra, ec3, rfl⟩
  · have e : i = Ls.length := by omega
    subst e
    refine .inl ⟨⟨hH, by omega⟩, ?_⟩
    rw [List.take_length] at ra
    obtain ⟨o2, ee⟩ := o'.adopt s'
    exact G (.ref Dl) (.im (.lst ((Ls.map D.lst).filter p))) ⟨upd κ'.I Dl (.lst xs), κ'.H, κ'.th, κ'.c⟩ ((l1.trans l').adopt s' hD0) o2 ⟨Dl, xs, rfl, upd_same, Rps.ex ee _ ra⟩ (by show Q _ κ'.c; rw [cc]; exact q)
variable {ρ2 : Ρ} {n0 : Nat} {Z : EndsW}
/-- the slots behind: forgotten, or as before and of cells that stay -/
def DropOk (n : Nat) : Ρ → Ρ → Prop
  | [], [] => True
  | none :: r, _ :: r' => DropOk n r r'
  | some w :: r, o :: r' => (o = some w ∧ w.below n = true) ∧ DropOk n r r'
  | _, _ => False
theorem DropOk.get {n : Nat} : ∀ {r r' : Ρ}, DropOk n r r' → r.length = r'.length ∧ ∀ (i : Nat) w, r[i]? = some (some w) → r'[i]? = some (some w) ∧ w.below n = true
  | [], [], _ => ⟨rfl, fun i w h => by simp at h⟩
  | none :: r, _ :: r', h => by
    obtain ⟨h1, h2⟩ := DropOk.get (r := r) (r' := r') h
    refine ⟨by rw [List.length_cons, List.length_cons, h1], fun i w hi => ?_⟩
    cases i with
    | zero => simp at hi
    | succ i => exact h2 i w (by simpa using hi)
  | some w0 :: r, o :: r', ⟨⟨eo, e⟩, h⟩ => by
    subst eo
    obtain ⟨h1, h2⟩ := DropOk.get (r := r) (r' := r') h
    refine ⟨by rw [List.length_cons, List.length_cons, h1], fun i w hi => ?_⟩
    cases i with
    | zero =>
      have hi : w0 = w := by simpa using hi
      subst hi
      exact ⟨rfl, e⟩
    | succ i => exact h2 i w (by simpa using hi)
/-- cells that nothing speaks of any more go -/
theorem wss_drop {sts : List Stmt} {d : List Cell} (h0 : n0 ≤ c.length) (hcl : clo c.length c = true) (hf : DropOk c.length ρ2 ρ) (h : WSs Y n0 ρ2 c sts Z) : WSs Y n0 ρ (c ++ d) sts Z := fun κ0 κ σ hl le hc o r De E => by
  obtain ⟨q1, q2⟩ := hf.get
  have hcl2 : clo c.length κ.c = true := by rw [hc, clo_take (Nat.le_refl _)]; exact hcl
  refine h κ0 ⟨κ.I, κ.H, κ.th.take c.length, κ.c.take c.length⟩ σ hl (le.takeM (by omega)) (by show κ.c.take c.length = c; rw [hc, take_app]) (o.take hcl2) ⟨by rw [r.len, q1], fun i w hi => ?_⟩ De E
  obtain ⟨p1, p2⟩ := q2 i w hi
  obtain ⟨v, h1, h2⟩ := r.at_ i w p1
  exact ⟨v, h1, h2.take p2⟩
end
end WL
/-! The mathematics of the clocks: rules as data, what they tell. -/
namespace WL
open PySem PySem.Spec PyProof.Rows L2
/-- plain data, at most n deep, no list of it long -/
def Pl : Nat → D → Prop
  | _, .non => True
  | _, .bl _ => True
  | _, .int _ => True
  | _, .str x => PyData.strOk x = true
  | n + 1, .lst l => l.length ≤ 1000 ∧ ∀ x ∈ l, Pl n x
  | n + 1, .tup l => l.length ≤ 1000 ∧ ∀ x ∈ l, Pl n x
  | _, _ => False
theorem Pl.pn : ∀ {n : Nat} {d : D}, Pl n d → Pn n d
  | _, .non, _ => by simp [Pn]
  | _, .bl _, _ => by simp [Pn]
  | _, .int _, _ => by simp [Pn]
  | _, .str x, h => by simpa [Pn, Pl] using h
  | 0, .lst l, h => by simp [Pl] at h
  | 0, .tup l, h => by simp [Pl] at h
  | n + 1, .lst l, h => fun x hx => Pl.pn (h.2 x hx)
  | n + 1, .tup l, h => fun x hx => Pl.pn (h.2 x hx)
  | _, .scr _, h => by simp [Pl] at h
  | _, .obj _ _ _, h => by simp [Pl] at h
  | _, .dic _ _, h => by simp [Pl] at h
  | _, .dct _ _, h => by simp [Pl] at h
  | _, .ty _, h => by simp [Pl] at h
  | _, .cls _, h => by simp [Pl] at h
theorem Pl.up : ∀ {n : Nat} {d : D}, Pl n d → Pl (n + 1) d
  | _, .non, _ => by simp [Pl]
  | _, .bl _, _ => by simp [Pl]
  | _, .int _, _ => by simp [Pl]
  | _, .str x, h => by simpa [Pl] using h
  | 0, .lst l, h => by simp [Pl] at h
  | 0, .tup l, h => by simp [Pl] at h
  | n + 1, .lst l, h => ⟨h.1, fun x hx => Pl.up (h.2 x hx)⟩
  | n + 1, .tup l, h => ⟨h.1, fun x hx => Pl.up (h.2 x hx)⟩
  | _, .scr _, h => by simp [Pl] at h
  | _, .obj _ _ _, h => by simp [Pl] at h
  | _, .dic _ _, h => by simp [Pl] at h
  | _, .dct _ _, h => by simp [Pl] at h
  | _, .ty _, h => by simp [Pl] at h
  | _, .cls _, h => by simp [Pl] at h
theorem Pl.mono {n m : Nat} {d : D} (h : Pl n d) (l : n ≤ m) : Pl m d := by
  induction l with
  | refl => exact h
  | step _ ih => exact ih.up
theorem Pl.tyn {n : Nat} {d : D} (h : Pl n d) : ∃ a, d.tyn = some a := by
  cases d <;> first | exact ⟨_, rfl⟩ | (cases n <;> exact h.elim)
abbrev G30 : Int := 1000000000000000000000000000000
abbrev F64 : Int := 10000000000000000000000000000000000000000000000000000000000000000
/-! ### rules -/
inductive Tk where | all | one (n : Int) | but (n : Int)
inductive Of where | times (n : Int) | hours | parts
structure Ru where
  h : Tk
  p : Tk
  low : Bool
  o : Of
def Tk.d (word : Str) : Tk → D
  | .all => .tup [.str "all"]
  | .one n => .tup [.str word, .int n]
  | .but n => .tup [.str "but", .int n]
def Of.d : Of → D
  | .times n => .tup [.str "times", .int n]
  | .hours => .tup [.str "hours"]
  | .parts => .tup [.str "parts"]
def bellS (b : Bool) : Str := if b then "low" else "high"
def Ru.d (r : Ru) : D := .tup [r.h.d "hour", r.p.d "part", .str (bellS r.low), r.o.d]
def Tk.ok : Tk → Prop
  | .all => True
  | .one n => -2 ≤ n ∧ n ≤ 1
  | .but n => -2 ≤ n ∧ n ≤ 1
def Of.ok : Of → Prop
  | .times n => 1 ≤ n ∧ n ≤ 3
  | .hours => True
  | .parts => True
def Ru.ok (r : Ru) : Prop := r.h.ok ∧ r.p.ok ∧ r.o.ok
def rusD (l : List Ru) : D := .tup (l.map Ru.d)
def Tk.has (t : Tk) (place many : Int) : Bool := match t with
  | .all => true
  | .one n => decide (n % many = place)
  | .but n => !decide (n % many = place)
/-! ### what a clock takes for a rule -/
def endsD : List D := [.int (-2), .int (-1), .int 0, .int 1]
def timesD : List D := [.int 1, .int 2, .int 3]
def bellsD : List D := [.str "high", .str "low"]
def isInD (d : D) (l : List D) : Bool := match d with
  | .int i => inD (.int i) l
  | _ => false
def isWordD (d : D) (l : List D) : Bool := match d with
  | .str x => inD (.str x) l
  | _ => false
def isTakingD (d : D) (word : Str) : Bool := match d with
  | .tup (.str x :: r) => if x = ("all" : Str) then decide (r.length = 0) else (match r with
    | [e] => inD (.str x) [.str word, .str "but"] && isInD e endsD
    | _ => false)
  | _ => false
def isStrokesD (d : D) : Bool := match d with
  | .tup (.str x :: r) => if x = ("times" : Str) then (match r with
    | [e] => isInD e timesD
    | _ => false) else (match r with
    | [] => inD (.str x) [.str "hours", .str "parts"]
    | _ => false)
  | _ => false
def isRuleD (d : D) : Bool := match d with
  | .tup [a, b, e, o] => isTakingD a "hour" && isTakingD b "part" && isWordD e bellsD && isStrokesD o
  | _ => false
def Of.num (o : Of) (h p : Int) : Int := match o with
  | .times n => n
  | .hours => 1 + h
  | .parts => 1 + p
def isFromD (d : D) (i j : Int) : Bool := match d with
  | .int n => decide (i ≤ n) && decide (n ≤ j)
  | _ => false
def isLandD (d : D) (g : Int) : Bool := match d with
  | .tup [a, b] => isFromD a 2 g && isFromD b 2 g
  | _ => false
theorem pl_tk {t : Tk} {x : Str} (hx : PyData.strOk x = true) : Pl 3 (t.d x) := by
  cases t <;> simp only [Tk.d, Pl, List.mem_cons, List.not_mem_nil, or_false, forall_eq_or_imp, forall_eq, List.length_cons, List.length_nil]
  · exact ⟨by omega, by decide +kernel⟩
  · exact ⟨by omega, hx, trivial⟩
  · exact ⟨by omega, by decide +kernel, trivial⟩
theorem pl_of {o : Of} : Pl 3 o.d := by
  cases o <;> simp only [Of.d, Pl, List.mem_cons, List.not_mem_nil, or_false, forall_eq_or_imp, forall_eq, List.length_cons, List.length_nil]
  · exact ⟨by omega, by decide +kernel, trivial⟩
  · exact ⟨by omega, by decide +kernel⟩
  · exact ⟨by omega, by decide +kernel⟩
theorem pl_bell (b : Bool) : Pl 3 (.str (bellS b)) := by cases b <;> (show PyData.strOk _ = true; decide +kernel)
theorem pl_ru (r : Ru) : Pl 4 r.d := by
  refine ⟨by simp, fun x hx => ?_⟩
  simp only [List.mem_cons, List.not_mem_nil, or_false] at hx
  rcases hx with rfl | rfl | rfl | rfl
  · exact pl_tk (by decide +kernel)
  · exact pl_tk (by decide +kernel)
  · exact pl_bell _
  · exact pl_of
theorem isIn_ends {n : Int} (h : -2 ≤ n ∧ n ≤ 1) : isInD (.int n) endsD = true := by
  have : n = -2 ∨ n = -1 ∨ n = 0 ∨ n = 1 := by omega
  rcases this with rfl | rfl | rfl | rfl <;> rfl
theorem isTaking_d {t : Tk} (h : t.ok) : isTakingD (t.d "hour") "hour" = true ∧ isTakingD (t.d "part") "part" = true := by
  cases t with
  | all => exact ⟨by decide, by decide⟩
  | one n =>
    constructor <;> (simp only [Tk.d, isTakingD]; rw [if_neg (by decide), isIn_ends h]; decide)
  | but n =>
    constructor <;> (simp only [Tk.d, isTakingD]; rw [if_neg (by decide), isIn_ends h]; decide)
theorem isStrokes_d {o : Of} (h : o.ok) : isStrokesD o.d = true := by
  cases o with
  | times n =>
    have h1 : 1 ≤ n ∧ n ≤ 3 := h
    have : n = 1 ∨ n = 2 ∨ n = 3 := by omega
    rcases this with rfl | rfl | rfl <;> decide
  | hours => decide
  | parts => decide
theorem isWord_bell (b : Bool) : isWordD (.str (bellS b)) bellsD = true := by cases b <;> decide
theorem isRule_d {r : Ru} (h : r.ok) : isRuleD r.d = true := by
  show (isTakingD (r.h.d "hour") "hour" && isTakingD (r.p.d "part") "part" && isWordD (.str (bellS r.low)) bellsD && isStrokesD r.o.d) = true
  rw [(isTaking_d h.1).1, (isTaking_d h.2.1).2, isWord_bell, isStrokes_d h.2.2]; rfl
theorem rtok_obj1 {Q : KQ} {C : Addr} {ns : List Str} {l : List D} {c : List Cell} (h : clo c.length c = true) (q : Q (.im (.obj C ns l)) c) : RtOk c.length Q (.ce c.length) (c ++ [.ins C ns (l.map W.im)]) :=
  RtOk.obj cel_0 (by rw [take_app]; exact q) (Nat.le_refl _) (clo_app h)
/-- a clock -/
def clockD (K : PySem.W.Frag) (l : List Ru) : D := .obj (He.ga K "Clock") ["rows"] [rusD l]
end WL
/-! What a clock strikes. -/
namespace WL
open PySem PySem.Spec PyProof.Rows L2
def Ru.fit (r : Ru) (a b h p : Int) : Bool := r.h.has h a && r.p.has p b
def stStep (a b h p : Int) (acc : List (Bool × Of)) (r : Ru) : List (Bool × Of) := if acc.any (fun x => decide (x.1 = r.low)) = false ∧ r.fit a b h p = true then acc ++ [(r.low, r.o)] else acc
def struckL (l : List Ru) (a b h p : Int) : List (Bool × Of) := l.foldl (stStep a b h p) []
def bkey (b : Bool) : Key := .inr (bellS b)
def stK (acc : List (Bool × Of)) : List Key := acc.map fun x => bkey x.1
def stV (acc : List (Bool × Of)) : List D := acc.map fun x => x.2.d
def struckD (l : List Ru) (a b h p : Int) : D := .dic (stK (struckL l a b h p)) (stV (struckL l a b h p))
theorem bkey_inj {a b : Bool} (h : bkey a = bkey b) : a = b := by
  cases a <;> cases b <;> first | rfl | (exfalso; revert h; decide)
theorem atK_st (b : Bool) : ∀ acc : List (Bool × Of), atK (stK acc) (stV acc) (bkey b) = (acc.find? fun x => decide (x.1 = b)).map fun x => x.2.d
  | [] => rfl
  | x :: r => by
    show (if bkey x.1 = bkey b then some x.2.d else atK (stK r) (stV r) (bkey b)) = _
    by_cases h : x.1 = b
    · rw [if_pos (by rw [h]), List.find?_cons_of_pos (by simpa using h)]; rfl
    · rw [if_neg (fun z => h (bkey_inj z)), List.find?_cons_of_neg (by simpa using h), atK_st b r]
theorem put_st (b : Bool) (o : Of) : ∀ acc : List (Bool × Of), acc.any (fun x => decide (x.1 = b)) = false → putD (stK acc) (stV acc) (bkey b) o.d = (stK (acc ++ [(b, o)]), stV (acc ++ [(b, o)]))
  | [], _ => rfl
  | x :: r, h => by
    simp only [List.any_cons, Bool.or_eq_false_iff, decide_eq_false_iff_not] at h
    have ih := put_st b o r h.2
    show (if bkey x.1 = bkey b then (bkey x.1 :: stK r, o.d :: stV r) else (bkey x.1 :: (putD (stK r) (stV r) (bkey b) o.d).1, x.2.d :: (putD (stK r) (stV r) (bkey b) o.d).2)) = _
    rw [if_neg (fun z => h.1 (bkey_inj z)), ih]; rfl
theorem st_len : ∀ (l : List Ru) (acc : List (Bool × Of)) (a b h p : Int), (l.foldl (stStep a b h p) acc).length ≤ acc.length + l.length
  | [], acc, _, _, _, _ => by simp
  | r :: l, acc, a, b, h, p => by
    rw [List.foldl_cons]
    refine Nat.le_trans (st_len l _ a b h p) ?_
    unfold stStep
    split <;> simp <;> omega
theorem st_nd : ∀ (l : List Ru) (acc : List (Bool × Of)) (a b h p : Int), (stK acc).Nodup → (stK (l.foldl (stStep a b h p) acc)).Nodup
  | [], acc, _, _, _, _, hn => hn
  | r :: l, acc, a, b, h, p, hn => by
    rw [List.foldl_cons]
    refine st_nd l _ a b h p ?_
    unfold stStep
    split
    · rename_i hh
      show (List.map _ (acc ++ [_])).Nodup
      rw [List.map_append, List.nodup_append]
      refine ⟨hn, by simp, ?_⟩
      intro x hx y hy e
      simp only [List.map_cons, List.map_nil, List.mem_singleton] at hy
      subst hy; subst e
      obtain ⟨z, hz, e⟩ := List.mem_map.mp hx
      have := bkey_inj e
      have h3 := List.any_eq_false.mp hh.1 z hz
      simp [this] at h3
    · exact hn
end WL
namespace WL
open PySem PySem.Spec PyProof.Rows L2
/-- of few bits -/
def Wid (i : Int) : Prop := -(2 ^ 250) ≤ i ∧ i ≤ 2 ^ 250
def pairD (lo : Bool) (n : Int) : D := .tup [.str (bellS lo), .int n]
/-- the first rule that fits, of one bell -/
def firstO (l : List Ru) (lo : Bool) (a b h p : Int) : Option Of := (l.find? fun r => decide (r.low = lo) && r.fit a b h p).map Ru.o
def soundsL (l : List Ru) (a b h p : Int) : List (Bool × Int) := [false, true].filterMap fun lo => (firstO l lo a b h p).map fun o => (lo, o.num h p)
def soundsD (l : List Ru) (a b h p : Int) : D := .tup ((soundsL l a b h p).map fun x => pairD x.1 x.2)
end WL
namespace WL
open PySem PySem.Spec PyProof.Rows L2
theorem st_few : ∀ {acc : List (Bool × Of)}, (stK acc).Nodup → acc = [] ∨ (∃ x, acc = [x]) ∨ ∃ x y, acc = [x, y] ∧ x.1 ≠ y.1
  | [], _ => .inl rfl
  | [x], _ => .inr (.inl ⟨x, rfl⟩)
  | [x, y], h => .inr (.inr ⟨x, y, rfl, fun e => by
    have : (bkey x.1) ∉ [bkey y.1] := (List.nodup_cons.mp h).1
    exact this (by rw [e]; simp)⟩)
  | x :: y :: z :: r, h => by
    have h1 : bkey x.1 ∉ bkey y.1 :: bkey z.1 :: stK r := (List.nodup_cons.mp h).1
    have h2 : bkey y.1 ∉ bkey z.1 :: stK r := (List.nodup_cons.mp (List.nodup_cons.mp h).2).1
    simp only [List.mem_cons, not_or] at h1 h2
    exfalso
    cases hx : x.1 <;> cases hy : y.1 <;> cases hz : z.1 <;> simp_all
theorem perm_two {α : Type} {a b : α} {ys : List α} (h : ys.Perm [a, b]) : ys = [a, b] ∨ ys = [b, a] := by
  have hl := h.length_eq
  match ys, hl with
  | [x, y], _ =>
    have h1 : x ∈ [a, b] := h.subset List.mem_cons_self
    simp only [List.mem_cons, List.not_mem_nil, or_false] at h1
    rcases h1 with rfl | rfl
    · have := (List.perm_cons x).mp h
      have := List.perm_singleton.mp this
      simp only [List.cons.injEq, and_true] at this
      subst this; exact .inl rfl
    · have h3 := h.trans (List.Perm.swap x a [])
      have := (List.perm_cons x).mp h3
      have := List.perm_singleton.mp this
      simp only [List.cons.injEq, and_true] at this
      subst this; exact .inr rfl
theorem st_sorted {acc : List (Bool × Of)} (nd : (stK acc).Nodup) {ys : List Str} (hp : ys.Perm (acc.map fun x => bellS x.1)) (hs : sortedS ys = true) : ys = ([false, true].filter fun lo => acc.any fun x => decide (x.1 = lo)).map bellS := by
  rcases st_few nd with rfl | ⟨x, rfl⟩ | ⟨x, y, rfl, hn⟩
  · exact List.Perm.eq_nil hp
  · have := List.perm_singleton.mp hp
    subst this
    cases hx : x.1 <;> simp [List.filter, hx]
  · rcases perm_two hp with rfl | rfl
    · cases hx : x.1 <;> cases hy : y.1 <;> simp_all [List.filter]
      exact absurd hs (by decide)
    · cases hx : x.1 <;> cases hy : y.1 <;> simp_all [List.filter]
      exact absurd hs (by decide)
theorem st_find (lo : Bool) (a b h p : Int) : ∀ (l : List Ru) (acc : List (Bool × Of)), (l.foldl (stStep a b h p) acc).find? (fun x => decide (x.1 = lo)) = (acc.find? fun x => decide (x.1 = lo)).or ((firstO l lo a b h p).map fun o => (lo, o))
  | [], acc => by simp [firstO]
  | r :: l, acc => by
    rw [List.foldl_cons, st_find lo a b h p l]
    unfold stStep
    by_cases hf : r.fit a b h p = true
    · by_cases hr : r.low = lo
      · have e : firstO (r :: l) lo a b h p = some r.o := by unfold firstO; rw [List.find?_cons_of_pos (by simp [hf, hr])]; rfl
        rw [e]
        by_cases ha : acc.any (fun x => decide (x.1 = r.low)) = false
        · rw [if_pos ⟨ha, hf⟩, List.find?_append]
          have : acc.find? (fun x => decide (x.1 = lo)) = none := by
            rw [List.find?_eq_none]; intro x hx; have := List.any_eq_false.mp ha x hx; rw [hr] at this; exact this
          rw [this]; simp [hr]
        · rw [if_neg (fun z => ha z.1)]
          rw [Bool.not_eq_false] at ha
          obtain ⟨x, hx1, hx2⟩ := List.any_eq_true.mp ha
          cases hq : acc.find? (fun x => decide (x.1 = lo)) with
          | none => exact absurd (by rw [hr] at hx2; exact hx2) (List.find?_eq_none.mp hq x hx1)
          | some y => rfl
      · have e : firstO (r :: l) lo a b h p = firstO l lo a b h p := by unfold firstO; rw [List.find?_cons_of_neg (by simp [hr])]
        rw [e]
        split
        · rw [List.find?_append, List.find?_cons_of_neg (by simpa using hr)]; simp
        · rfl
    · have e : firstO (r :: l) lo a b h p = firstO l lo a b h p := by unfold firstO; rw [List.find?_cons_of_neg (by simp [hf])]
      rw [e, if_neg (fun z => hf z.2)]
theorem struck_find (l : List Ru) (lo : Bool) (a b h p : Int) : (struckL l a b h p).find? (fun x => decide (x.1 = lo)) = (firstO l lo a b h p).map fun o => (lo, o) := by
  unfold struckL; rw [st_find]; simp
theorem struck_at (l : List Ru) (lo : Bool) (a b h p : Int) : atK (stK (struckL l a b h p)) (stV (struckL l a b h p)) (bkey lo) = (firstO l lo a b h p).map Of.d := by
  rw [atK_st, struck_find]; cases firstO l lo a b h p <;> rfl
theorem struck_any (l : List Ru) (lo : Bool) (a b h p : Int) : (struckL l a b h p).any (fun x => decide (x.1 = lo)) = (firstO l lo a b h p).isSome := by
  have := struck_find l lo a b h p
  cases hf : firstO l lo a b h p with
  | none =>
    rw [hf] at this
    show _ = false
    rw [List.any_eq_false]
    intro x hx
    simpa using List.find?_eq_none.mp this x hx
  | some o =>
    rw [hf] at this
    show _ = true
    rw [List.any_eq_true]
    have h2 := List.find?_some this
    exact ⟨_, List.mem_of_find?_eq_some this, h2⟩
/-- the bells that sound, high first -/
def bellsL (l : List Ru) (a b h p : Int) : List Bool := [false, true].filter fun lo => (firstO l lo a b h p).isSome
theorem bells_at {l : List Ru} {a b h p : Int} {lo : Bool} (hm : lo ∈ bellsL l a b h p) : ∃ o, firstO l lo a b h p = some o := by
  unfold bellsL at hm
  exact Option.isSome_iff_exists.mp (List.mem_filter.mp hm).2
theorem sounds_bells (l : List Ru) (a b h p : Int) : soundsD l a b h p = .tup ((bellsL l a b h p).map fun lo => pairD lo (((firstO l lo a b h p).getD .hours).num h p)) := by
  unfold soundsD soundsL bellsL
  congr 1
  simp only [List.filterMap_cons, List.filterMap_nil, List.filter_cons, List.filter_nil]
  cases h1 : firstO l false a b h p <;> cases h2 : firstO l true a b h p <;> simp [h1, h2]
end WL
namespace WL
open PySem PySem.Spec PyProof.Rows L2
theorem isFrom_inv {d : D} {i j : Int} (h : isFromD d i j = true) : ∃ n, d = .int n ∧ i ≤ n ∧ n ≤ j := by
  cases d with
  | int n =>
    have h : (decide (i ≤ n) && decide (n ≤ j)) = true := h
    rw [Bool.and_eq_true, decide_eq_true_eq, decide_eq_true_eq] at h
    exact ⟨n, rfl, h.1, h.2⟩
  | _ => cases h
theorem isLand_inv {d : D} {g : Int} (h : isLandD d g = true) : ∃ x y, d = .tup [.int x, .int y] ∧ 2 ≤ x ∧ x ≤ g ∧ 2 ≤ y ∧ y ≤ g := by
  unfold isLandD at h
  split at h
  · rw [Bool.and_eq_true] at h
    obtain ⟨x, rfl, h1, h2⟩ := isFrom_inv h.1
    obtain ⟨y, rfl, h3, h4⟩ := isFrom_inv h.2
    exact ⟨x, y, rfl, h1, h2, h3, h4⟩
  · cases h
theorem wid_of {i : Int} (h1 : -(10 ^ 75) ≤ i) (h2 : i ≤ 10 ^ 75) : Wid i := by
  unfold Wid
  have h : (10 : Int) ^ 75 ≤ 2 ^ 250 := by decide
  omega
end WL
/-! What the laws draw. -/
namespace WL
open PySem PySem.Spec PyProof.Rows L2
/-- the list of a law's draws -/
structure Dr where
  seed : Int
  cur : Int
  rest : List Int
def Dr.l (d : Dr) : List D := .int d.seed :: .int d.cur :: d.rest.map D.int
def Dr.ok (d : Dr) : Prop := d.rest.length ≤ 1000
theorem Dr.len (d : Dr) : d.l.length = d.rest.length + 2 := by simp [Dr.l]
theorem ixN_0 {n : Nat} : L2.ixN (n + 1) 0 = some 0 := by
  have h : (0 : Int) < (n : Int) + 1 := by omega
  simp [L2.ixN, h]
theorem ixN_1 {n : Nat} : L2.ixN (n + 1 + 1) 1 = some 1 := by
  have h : (1 : Int) < (n : Int) + 1 + 1 := by omega
  simp [L2.ixN, h]
theorem seq_2 {n : Nat} : seqIndex? 2 (n + 1 + 1 + 1) = some 2 := by
  have h : (2 : Int) < (n : Int) + 1 + 1 + 1 := by omega
  simp [seqIndex?, h]
theorem atI_nat {α : Type} {l : List α} {k : Nat} (h : k < l.length) : L2.atI l (k : Int) = some l[k] := by
  have h2 : (k : Int) < (l.length : Int) := by omega
  simp [L2.atI, L2.ixN, h2, h]
end WL
/-! What the laws compute of a day. -/
namespace WL
open PySem PySem.Spec PyProof.Rows L2
def Tk.fit (t : Tk) (p m : Int) : Bool := match t with
  | .all => true
  | .one n => decide (p = if 0 ≤ n then n else m + n)
  | .but n => !decide (p = if 0 ≤ n then n else m + n)
def placeOf (n m : Int) : Int := if 0 ≤ n then n else m + n
theorem place_mod {n m : Int} (hn : -2 ≤ n ∧ n ≤ 1) (hm : 2 ≤ m) : placeOf n m = n % m := by
  unfold placeOf
  by_cases h : 0 ≤ n
  · rw [if_pos h, Int.emod_eq_of_lt h (by omega)]
  · rw [if_neg h, ← Int.add_emod_left, Int.emod_eq_of_lt (by omega) (by omega)]
/-! ### rows of a day -/
def dayL (l : List Ru) (a b : Int) : List D := (List.range (a * b).toNat).map fun (x : Nat) => soundsD l a b ((x : Int) / b) ((x : Int) % b)
theorem firstO_cons {r : Ru} {l : List Ru} {lo : Bool} {a b h p : Int} : firstO (r :: l) lo a b h p = if r.low = lo ∧ r.fit a b h p = true then some r.o else firstO l lo a b h p := by
  unfold firstO
  by_cases hh : r.low = lo ∧ r.fit a b h p = true
  · rw [if_pos hh, List.find?_cons_of_pos (by simp [hh.1, hh.2])]; rfl
  · rw [if_neg hh, List.find?_cons_of_neg (by simpa using hh)]
theorem first_ok {l : List Ru} {lo : Bool} {a b h p : Int} {o : Of} (hok : ∀ r ∈ l, r.ok) (hf : firstO l lo a b h p = some o) : o.ok := by
  unfold firstO at hf
  obtain ⟨r, hr, rfl⟩ := Option.map_eq_some_iff.mp hf
  exact (hok r (List.mem_of_find?_eq_some hr)).2.2
theorem dayL_len (l : List Ru) (a b : Int) : (dayL l a b).length = (a * b).toNat := by unfold dayL; simp
theorem dayL_get {l : List Ru} {a b : Int} {i : Nat} (h : i < (a * b).toNat) : (dayL l a b)[i]? = some (soundsD l a b ((i : Int) / b) ((i : Int) % b)) := by
  unfold dayL
  rw [List.getElem?_map, List.getElem?_range h]; rfl
/-! ### a dict that is set -/
theorem pl_pair (lo : Bool) (n : Int) : Pl 2 (pairD lo n) := by
  refine ⟨by simp, fun x hx => ?_⟩
  simp only [List.mem_cons, List.not_mem_nil, or_false] at hx
  rcases hx with rfl | rfl
  · cases lo <;> (show PyData.strOk _ = true; decide +kernel)
  · trivial
theorem pl_sounds (l : List Ru) (a b h p : Int) : Pl 3 (soundsD l a b h p) := by
  refine ⟨?_, fun x hx => ?_⟩
  · rw [List.length_map]
    exact Nat.le_trans (List.length_filterMap_le _ _) (by decide)
  · obtain ⟨y, _, rfl⟩ := List.mem_map.mp hx
    exact pl_pair _ _
end WL
/-! Far moments. -/
namespace WL
open PySem PySem.Spec PyProof.Rows L2
theorem log_wid {i : Int} (h : Wid i) : i.natAbs.log2 < 251 := by
  unfold Wid at h
  have h2 : i.natAbs ≤ 2 ^ 250 := by omega
  by_cases hz : i.natAbs = 0
  · rw [hz]; decide
  · exact (Nat.log2_lt hz).mpr (Nat.lt_of_le_of_lt h2 (Nat.pow_lt_pow_right (by decide) (by decide)))
theorem cmulW_of {i j : Int} (h1 : Wid i) (h2 : Wid j) : CMulW i j := by
  have a := log_wid h1
  have b := log_wid h2
  unfold CMulW
  omega
end WL
/-! Strokes of a day, ahead of a moment. -/
namespace WL
open PySem PySem.Spec PyProof.Rows L2
def sndD (s : List (Bool × Int)) : D := .tup (s.map fun x => pairD x.1 x.2)
def sndN (s : List (Bool × Int)) : Int := (s.map Prod.snd).sum
def dayS (l : List Ru) (a b : Int) : List (List (Bool × Int)) := (List.range (a * b).toNat).map fun (x : Nat) => soundsL l a b ((x : Int) / b) ((x : Int) % b)
theorem dayL_dayS (l : List Ru) (a b : Int) : dayL l a b = (dayS l a b).map sndD := by unfold dayL dayS; rw [List.map_map]; rfl
def dayN (l : List Ru) (a b : Int) : List Int := (dayS l a b).map sndN
theorem dayS_len (l : List Ru) (a b : Int) : (dayS l a b).length = (a * b).toNat := by unfold dayS; simp
def isSmallD (d : D) : Bool := isLandD d G30 && match d with
  | .tup [.int x, .int y] => decide (x * y ≤ 400)
  | _ => false
theorem small_no {d : D} (h : isLandD d G30 = false) : isSmallD d = false := by unfold isSmallD; rw [h]; rfl
theorem small_of {x y : Int} (h : isLandD (.tup [.int x, .int y]) G30 = true) (h2 : x * y ≤ 400) : isSmallD (.tup [.int x, .int y]) = true := by
  unfold isSmallD; rw [h]; simpa using h2
theorem small_far {x y : Int} (h2 : 400 < x * y) : isSmallD (.tup [.int x, .int y]) = false := by
  unfold isSmallD
  have : decide (x * y ≤ 400) = false := decide_eq_false (by omega)
  simp only [this, Bool.and_false]
theorem small_inv {d : D} (h : isSmallD d = true) : ∃ x y, d = .tup [.int x, .int y] ∧ 2 ≤ x ∧ 2 ≤ y ∧ x * y ≤ 400 ∧ x ≤ 200 ∧ y ≤ 200 ∧ isLandD d G30 = true := by
  unfold isSmallD at h
  rw [Bool.and_eq_true] at h
  obtain ⟨h1, h2⟩ := h
  obtain ⟨x, y, rfl, a1, _, a3, _⟩ := isLand_inv h1
  have h3 : x * y ≤ 400 := by simpa using h2
  refine ⟨x, y, rfl, a1, a3, h3, ?_, ?_, h1⟩
  · have : x * 2 ≤ x * y := Int.mul_le_mul_of_nonneg_left a3 (by omega)
    omega
  · have : 2 * y ≤ x * y := Int.mul_le_mul_of_nonneg_right a1 (by omega)
    omega
/-! ### sums -/
/-! ### ahead of a moment -/
end WL
/-! Lands up to ten are enough. -/
namespace WL
open PySem PySem.Spec PyProof.Rows L2
/-- hours (or parts) of one sort, in days of two lengths -/
def SameC (a h a' h' : Int) : Prop := ∀ n : Int, -2 ≤ n → n ≤ 1 → (placeOf n a = h ↔ placeOf n a' = h')
theorem SameC.has {a h a' h' : Int} (s : SameC a h a' h') (ha : 2 ≤ a) (ha' : 2 ≤ a') {t : Tk} (ht : t.ok) : t.has h a = t.has h' a' := by
  cases t with
  | all => rfl
  | one n =>
    have hn : -2 ≤ n ∧ n ≤ 1 := ht
    show decide (n % a = h) = decide (n % a' = h')
    rw [← place_mod hn ha, ← place_mod hn ha']
    exact decide_eq_decide.mpr (s n hn.1 hn.2)
  | but n =>
    have hn : -2 ≤ n ∧ n ≤ 1 := ht
    show (!decide (n % a = h)) = !decide (n % a' = h')
    rw [← place_mod hn ha, ← place_mod hn ha']
    congr 1
    exact decide_eq_decide.mpr (s n hn.1 hn.2)
theorem SameC.rfl' {a h : Int} : SameC a h a h := fun _ _ _ => Iff.rfl
theorem SameC.symm {a h a' h' : Int} (s : SameC a h a' h') : SameC a' h' a h := fun n h1 h2 => (s n h1 h2).symm
theorem sameC_low {a h a' : Int} (ha : 4 ≤ a) (ha' : 4 ≤ a') (h0 : 0 ≤ h) (h1 : h ≤ 1) : SameC a h a' h := fun n n1 n2 => by
  unfold placeOf; split <;> omega
theorem sameC_top {a h a' h' : Int} (ha : 4 ≤ a) (ha' : 4 ≤ a') (h1 : a - 2 ≤ h) (h2 : h' = a' - (a - h)) : SameC a h a' h' := fun n n1 n2 => by
  unfold placeOf; split <;> omega
theorem sameC_mid {a h a' h' : Int} (h1 : 2 ≤ h) (h2 : h ≤ a - 3) (h3 : 2 ≤ h') (h4 : h' ≤ a' - 3) : SameC a h a' h' := fun n n1 n2 => by
  unfold placeOf; split <;> omega
theorem firstO_cls {l : List Ru} {lo : Bool} {a b h p a' b' h' p' : Int} (hok : ∀ r ∈ l, r.ok) (s : SameC a h a' h') (s2 : SameC b p b' p') (ha : 2 ≤ a) (ha' : 2 ≤ a') (hb : 2 ≤ b) (hb' : 2 ≤ b') : firstO l lo a b h p = firstO l lo a' b' h' p' := by
  induction l with
  | nil => rfl
  | cons r l ih =>
    have hr := hok r List.mem_cons_self
    rw [firstO_cons, firstO_cons, ih fun x hx => hok x (List.mem_cons_of_mem _ hx)]
    have : r.fit a b h p = r.fit a' b' h' p' := by
      unfold Ru.fit
      rw [s.has ha ha' hr.1, s2.has hb hb' hr.2.1]
    rw [this]
/-- what is told of one bell -/
def tellO (l : List Ru) (lo : Bool) (a b h p : Int) : Option Int := (firstO l lo a b h p).map fun o => o.num h p
theorem sounds_tell (l : List Ru) (a b h p : Int) : soundsL l a b h p = ((tellO l false a b h p).toList.map fun n => (false, n)) ++ ((tellO l true a b h p).toList.map fun n => (true, n)) := by
  unfold soundsL tellO
  simp only [List.filterMap_cons, List.filterMap_nil]
  cases firstO l false a b h p <;> cases firstO l true a b h p <;> simp
theorem sounds_eq {l m : List Ru} {a b h p a' b' h' p' : Int} : soundsL l a b h p = soundsL m a' b' h' p' ↔ ∀ lo, tellO l lo a b h p = tellO m lo a' b' h' p' := by
  rw [sounds_tell, sounds_tell]
  constructor
  · intro e lo
    cases h1 : tellO l false a b h p <;> cases h2 : tellO l true a b h p <;> cases h3 : tellO m false a' b' h' p' <;> cases h4 : tellO m true a' b' h' p' <;> rw [h1, h2, h3, h4] at e <;> simp at e <;> cases lo <;> simp_all
  · intro e
    rw [e false, e true]
theorem sounds_nil {l : List Ru} {a b h p : Int} : soundsL l a b h p = [] ↔ ∀ lo, firstO l lo a b h p = none := by
  rw [sounds_tell]
  unfold tellO
  constructor
  · intro e lo
    cases h1 : firstO l false a b h p <;> cases h2 : firstO l true a b h p <;> rw [h1, h2] at e <;> simp at e <;> cases lo <;> assumption
  · intro e
    rw [e false, e true]; rfl
/-- unlike sounds of a long day are unlike at one of two shorter ones -/
theorem unlike_down {l m : List Ru} {lo : Bool} {a b h p : Int} (hl : ∀ r ∈ l, r.ok) (hm : ∀ r ∈ m, r.ok) (ha : 11 ≤ a) (hb : 2 ≤ b) (h0 : 0 ≤ h) (h1 : h < a) (hne : tellO l lo a b h p ≠ tellO m lo a b h p) :
    ∃ a' h' : Int, 9 ≤ a' ∧ a' ≤ 10 ∧ 0 ≤ h' ∧ h' < a' ∧ tellO l lo a' b h' p ≠ tellO m lo a' b h' p := by
  have key : ∀ a1 h1 a2 h2 : Int, SameC a h a1 h1 → SameC a h a2 h2 → 9 ≤ a1 → 9 ≤ a2 → (h1 = h ∨ (6 ≤ h1 ∧ 6 ≤ h2 ∧ h1 ≠ h2)) →
      tellO l lo a1 b h1 p ≠ tellO m lo a1 b h1 p ∨ tellO l lo a2 b h2 p ≠ tellO m lo a2 b h2 p := by
    intro a1 h1 a2 h2 s1 s2 g1 g2 hc
    have f1 := firstO_cls (lo := lo) hl s1 (SameC.rfl' (a := b) (h := p)) (by omega) (by omega) hb hb
    have f2 := firstO_cls (lo := lo) hl s2 (SameC.rfl' (a := b) (h := p)) (by omega) (by omega) hb hb
    have f3 := firstO_cls (lo := lo) hm s1 (SameC.rfl' (a := b) (h := p)) (by omega) (by omega) hb hb
    have f4 := firstO_cls (lo := lo) hm s2 (SameC.rfl' (a := b) (h := p)) (by omega) (by omega) hb hb
    unfold tellO at hne ⊢
    rw [← f1, ← f2, ← f3, ← f4]
    cases e1 : firstO l lo a b h p with
    | none =>
      cases e2 : firstO m lo a b h p with
      | none => rw [e1, e2] at hne; exact absurd rfl hne
      | some o2 => exact .inl (by simp)
    | some o1 =>
      cases e2 : firstO m lo a b h p with
      | none => exact .inl (by simp)
      | some o2 =>
        have k1 := first_ok hl e1
        have k2 := first_ok hm e2
        rw [e1, e2] at hne
        simp only [Option.map_some, ne_eq, Option.some.injEq] at hne ⊢
        cases o1 with
        | times n1 =>
          have b1 : 1 ≤ n1 ∧ n1 ≤ 3 := k1
          cases o2 with
          | times n2 => exact .inl hne
          | hours =>
            have hne : ¬ n1 = 1 + h := hne
            show ¬ n1 = 1 + h1 ∨ ¬ n1 = 1 + h2
            omega
          | parts => exact .inl hne
        | hours =>
          cases o2 with
          | times n2 =>
            have b2 : 1 ≤ n2 ∧ n2 ≤ 3 := k2
            have hne : ¬ 1 + h = n2 := hne
            show ¬ 1 + h1 = n2 ∨ ¬ 1 + h2 = n2
            omega
          | hours => exact absurd rfl hne
          | parts =>
            have hne : ¬ 1 + h = 1 + p := hne
            show ¬ 1 + h1 = 1 + p ∨ ¬ 1 + h2 = 1 + p
            omega
        | parts =>
          cases o2 with
          | times n2 => exact .inl hne
          | hours =>
            have hne : ¬ 1 + p = 1 + h := hne
            show ¬ 1 + p = 1 + h1 ∨ ¬ 1 + p = 1 + h2
            omega
          | parts => exact absurd rfl hne
  have fin : ∀ a1 h1 a2 h2 : Int, SameC a h a1 h1 → SameC a h a2 h2 → (9 ≤ a1 ∧ a1 ≤ 10 ∧ 0 ≤ h1 ∧ h1 < a1) → (9 ≤ a2 ∧ a2 ≤ 10 ∧ 0 ≤ h2 ∧ h2 < a2) → (h1 = h ∨ (6 ≤ h1 ∧ 6 ≤ h2 ∧ h1 ≠ h2)) → ∃ a' h' : Int, 9 ≤ a' ∧ a' ≤ 10 ∧ 0 ≤ h' ∧ h' < a' ∧ tellO l lo a' b h' p ≠ tellO m lo a' b h' p := fun a1 h1 a2 h2 s1 s2 g1 g2 hc =>
    (key a1 h1 a2 h2 s1 s2 g1.1 g2.1 hc).elim (fun z => ⟨a1, h1, g1.1, g1.2.1, g1.2.2.1, g1.2.2.2, z⟩) fun z => ⟨a2, h2, g2.1, g2.2.1, g2.2.2.1, g2.2.2.2, z⟩
  by_cases c1 : h ≤ 1
  · exact fin 10 h 10 h (sameC_low (by omega) (by omega) h0 c1) (sameC_low (by omega) (by omega) h0 c1) (by omega) (by omega) (by omega)
  · by_cases c2 : a - 2 ≤ h
    · exact fin 10 (10 - (a - h)) 9 (9 - (a - h)) (sameC_top (by omega) (by omega) c2 rfl) (sameC_top (by omega) (by omega) c2 rfl) (by omega) (by omega) (by omega)
    · by_cases c3 : h ≤ 7
      · exact fin 10 h 10 h (sameC_mid (by omega) (by omega) (by omega) (by omega)) (sameC_mid (by omega) (by omega) (by omega) (by omega)) (by omega) (by omega) (by omega)
      · exact fin 10 7 10 6 (sameC_mid (by omega) (by omega) (by omega) (by omega)) (sameC_mid (by omega) (by omega) (by omega) (by omega)) (by omega) (by omega) (by omega)
/-! ### hours for parts -/
def Of.tr : Of → Of
  | .times n => .times n
  | .hours => .parts
  | .parts => .hours
def Ru.tr (r : Ru) : Ru := ⟨r.p, r.h, r.low, r.o.tr⟩
theorem tr_ok {l : List Ru} (h : ∀ r ∈ l, r.ok) : ∀ r ∈ l.map Ru.tr, r.ok := fun r hr => by
  obtain ⟨x, hx, rfl⟩ := List.mem_map.mp hr
  obtain ⟨h1, h2, h3⟩ := h x hx
  refine ⟨h2, h1, ?_⟩
  cases ho : x.o with
  | times n => rw [ho] at h3; show Of.ok (Of.tr x.o); rw [ho]; exact h3
  | hours => show Of.ok (Of.tr x.o); rw [ho]; trivial
  | parts => show Of.ok (Of.tr x.o); rw [ho]; trivial
theorem firstO_tr {l : List Ru} {lo : Bool} {a b h p : Int} : firstO (l.map Ru.tr) lo b a p h = (firstO l lo a b h p).map Of.tr := by
  induction l with
  | nil => rfl
  | cons r l ih =>
    rw [List.map_cons, firstO_cons, firstO_cons, ih]
    have : (r.tr).fit b a p h = r.fit a b h p := by
      show (r.p.has p b && r.h.has h a) = (r.h.has h a && r.p.has p b)
      exact Bool.and_comm _ _
    rw [this]
    by_cases c : r.low = lo ∧ r.fit a b h p = true
    · rw [if_pos c, if_pos (show r.tr.low = lo ∧ _ from c)]; rfl
    · rw [if_neg c, if_neg (show ¬ (r.tr.low = lo ∧ _) from c)]
theorem tell_tr {l : List Ru} {lo : Bool} {a b h p : Int} : tellO (l.map Ru.tr) lo b a p h = tellO l lo a b h p := by
  unfold tellO
  rw [firstO_tr, Option.map_map]
  congr 1
  funext o
  cases o <;> rfl
theorem unlike_downP {l m : List Ru} {lo : Bool} {a b h p : Int} (hl : ∀ r ∈ l, r.ok) (hm : ∀ r ∈ m, r.ok) (ha : 2 ≤ a) (hb : 11 ≤ b) (p0 : 0 ≤ p) (p1 : p < b) (hne : tellO l lo a b h p ≠ tellO m lo a b h p) :
    ∃ b' p' : Int, 9 ≤ b' ∧ b' ≤ 10 ∧ 0 ≤ p' ∧ p' < b' ∧ tellO l lo a b' h p' ≠ tellO m lo a b' h p' := by
  obtain ⟨b', p', g1, g2, g3, g4, g5⟩ := unlike_down (l := l.map Ru.tr) (m := m.map Ru.tr) (lo := lo) (a := b) (b := a) (h := p) (p := h) (tr_ok hl) (tr_ok hm) hb ha p0 p1 (by rw [tell_tr, tell_tr]; exact hne)
  rw [tell_tr, tell_tr] at g5
  exact ⟨b', p', g1, g2, g3, g4, g5⟩
/-- the sounds of two clocks are unlike somewhere in a day -/
def Unlike (l m : List Ru) (a b : Int) : Prop := ∃ h p, 0 ≤ h ∧ h < a ∧ 0 ≤ p ∧ p < b ∧ soundsL l a b h p ≠ soundsL m a b h p
theorem unlike_h {l m : List Ru} {a b : Int} (hl : ∀ r ∈ l, r.ok) (hm : ∀ r ∈ m, r.ok) (ha : 11 ≤ a) (hb : 2 ≤ b) (u : Unlike l m a b) : ∃ a', 9 ≤ a' ∧ a' ≤ 10 ∧ Unlike l m a' b := by
  obtain ⟨h, p, h0, h1, p0, p1, ne⟩ := u
  have : ∃ lo, tellO l lo a b h p ≠ tellO m lo a b h p := Classical.byContradiction fun z => ne (sounds_eq.mpr fun lo => Classical.byContradiction fun y => z ⟨lo, y⟩)
  obtain ⟨lo, ne⟩ := this
  obtain ⟨a', h', g1, g2, g3, g4, g5⟩ := unlike_down hl hm ha hb h0 h1 ne
  exact ⟨a', g1, g2, h', p, g3, g4, p0, p1, fun e => g5 (sounds_eq.mp e lo)⟩
theorem unlike_p {l m : List Ru} {a b : Int} (hl : ∀ r ∈ l, r.ok) (hm : ∀ r ∈ m, r.ok) (ha : 2 ≤ a) (hb : 11 ≤ b) (u : Unlike l m a b) : ∃ b', 9 ≤ b' ∧ b' ≤ 10 ∧ Unlike l m a b' := by
  obtain ⟨h, p, h0, h1, p0, p1, ne⟩ := u
  have : ∃ lo, tellO l lo a b h p ≠ tellO m lo a b h p := Classical.byContradiction fun z => ne (sounds_eq.mpr fun lo => Classical.byContradiction fun y => z ⟨lo, y⟩)
  obtain ⟨lo, ne⟩ := this
  obtain ⟨b', p', g1, g2, g3, g4, g5⟩ := unlike_downP hl hm ha hb p0 p1 ne
  exact ⟨b', g1, g2, h, p', h0, h1, g3, g4, fun e => g5 (sounds_eq.mp e lo)⟩
/-- clocks alike in all small lands are alike -/
theorem alike_all {l m : List Ru} (hl : ∀ r ∈ l, r.ok) (hm : ∀ r ∈ m, r.ok) (h : ∀ a b : Int, 2 ≤ a → a ≤ 10 → 2 ≤ b → b ≤ 10 → ¬ Unlike l m a b) {a b : Int} (ha : 2 ≤ a) (hb : 2 ≤ b) : ¬ Unlike l m a b := fun u => by
  obtain ⟨a', a1, a2, u⟩ : ∃ a', 2 ≤ a' ∧ a' ≤ 10 ∧ Unlike l m a' b := by
    by_cases c : a ≤ 10
    · exact ⟨a, ha, c, u⟩
    · obtain ⟨a', g1, g2, g3⟩ := unlike_h hl hm (by omega) hb u
      exact ⟨a', by omega, g2, g3⟩
  obtain ⟨b', b1, b2, u⟩ : ∃ b', 2 ≤ b' ∧ b' ≤ 10 ∧ Unlike l m a' b' := by
    by_cases c : b ≤ 10
    · exact ⟨b, hb, c, u⟩
    · obtain ⟨b', g1, g2, g3⟩ := unlike_p hl hm a1 (by omega) u
      exact ⟨b', by omega, g2, g3⟩
  exact h a' b' a1 a2 b1 b2 u
end WL
/-! Lands in their order; the least land that parts two clocks. -/
namespace WL
open PySem PySem.Spec PyProof.Rows L2
def landsL (m : Nat) : List (Int × Int) := (List.range (2 * m - 3)).flatMap fun t => (List.range (min m (t + 2) + 1 - max 2 (t + 4 - m))).map fun i => (((max 2 (t + 4 - m) + i : Nat) : Int), ((t + 4 : Nat) : Int) - ((max 2 (t + 4 - m) + i : Nat) : Int))
def pairsL (m : Nat) : List (Int × Int) := (List.range (m - 1)).flatMap fun i => (List.range (m - 1)).map fun j => (((i + 2 : Nat) : Int), ((j + 2 : Nat) : Int))
def keyL (x : Int × Int) : Int := x.1 + x.2
theorem sorted_uniq {α : Type} {key : α → Int} : ∀ {l m : List α}, l.Pairwise (fun x y => key x ≤ key y) → m.Pairwise (fun x y => key x ≤ key y) → (∀ c : Int, l.filter (fun x => decide (key x = c)) = m.filter fun x => decide (key x = c)) → l = m
  | [], [], _, _, _ => rfl
  | [], y :: m, _, _, hf => by
    have h := hf (key y)
    rw [List.filter_cons_of_pos (by simp)] at h
    exact absurd h (by simp)
  | x :: l, [], _, _, hf => by
    have h := hf (key x)
    rw [List.filter_cons_of_pos (by simp)] at h
    exact absurd h (by simp)
  | x :: l, y :: m, hl, hm, hf => by
    obtain ⟨l1, l2⟩ := List.pairwise_cons.mp hl
    obtain ⟨m1, m2⟩ := List.pairwise_cons.mp hm
    have a1 : key x ≤ key y := by
      have h := hf (key y)
      rw [List.filter_cons_of_pos (a := y) (by simp)] at h
      have hy : y ∈ (x :: l).filter fun z => decide (key z = key y) := by rw [h]; exact List.mem_cons_self
      rcases List.mem_cons.mp (List.mem_filter.mp hy).1 with rfl | q
      · exact Int.le_refl _
      · exact l1 y q
    have a2 : key y ≤ key x := by
      have h := hf (key x)
      rw [List.filter_cons_of_pos (a := x) (by simp)] at h
      have hx : x ∈ (y :: m).filter fun z => decide (key z = key x) := by rw [← h]; exact List.mem_cons_self
      rcases List.mem_cons.mp (List.mem_filter.mp hx).1 with rfl | q
      · exact Int.le_refl _
      · exact m1 x q
    have e : key y = key x := by omega
    have h := hf (key x)
    rw [List.filter_cons_of_pos (by simp), List.filter_cons_of_pos (by simp [e])] at h
    injection h with h1 h2
    subst h1
    rw [sorted_uniq l2 m2 fun c => ?_]
    by_cases hc : key x = c
    · rw [← hc]; exact h2
    · have := hf c
      rw [List.filter_cons_of_neg (by simpa using hc), List.filter_cons_of_neg (by simpa using hc)] at this
      exact this
def okM (m : Nat) : Bool := decide ((landsL m).Pairwise fun x y => keyL x ≤ keyL y) && (landsL m).all (fun x => decide (0 ≤ keyL x) && decide (keyL x < 21)) && (pairsL m).all (fun x => decide (0 ≤ keyL x) && decide (keyL x < 21)) &&
  (List.range 21).all fun n => decide ((landsL m).filter (fun x => decide (keyL x = (n : Int))) = (pairsL m).filter fun x => decide (keyL x = (n : Int)))
theorem filter_far {l : List (Int × Int)} {c : Int} (h : l.all (fun x => decide (0 ≤ keyL x) && decide (keyL x < 21)) = true) (hc : ¬ (0 ≤ c ∧ c < 21)) : l.filter (fun x => decide (keyL x = c)) = [] := by
  rw [List.filter_eq_nil_iff]
  intro x hx
  have := List.all_eq_true.mp h x hx
  simp only [Bool.and_eq_true, decide_eq_true_eq] at this ⊢
  omega
/-- what a sort by the sum gives -/
theorem lands_sorted {m : Nat} (ok : okM m = true) {out : List (Int × Int)} (hs : out.Pairwise fun x y => keyL x ≤ keyL y) (hf : ∀ c : Int, out.filter (fun x => decide (keyL x = c)) = (pairsL m).filter fun x => decide (keyL x = c)) : out = landsL m := by
  unfold okM at ok
  simp only [Bool.and_eq_true] at ok
  obtain ⟨⟨⟨k1, k2⟩, k3⟩, k4⟩ := ok
  refine sorted_uniq hs (of_decide_eq_true k1) fun c => ?_
  rw [hf c]
  by_cases hc : 0 ≤ c ∧ c < 21
  · have := List.all_eq_true.mp k4 c.toNat (List.mem_range.mpr (by omega))
    have e : ((c.toNat : Nat) : Int) = c := by omega
    rw [e] at this
    exact (of_decide_eq_true this).symm
  · rw [filter_far k2 hc, filter_far k3 hc]
theorem okM_10 : okM 10 = true := by decide +kernel
/-! ### the least land that parts two clocks -/
def momL (l m : List Ru) (a b : Int) : Option Nat := (List.range (a * b).toNat).find? fun (x : Nat) => !decide (soundsL l a b ((x : Int) / b) ((x : Int) % b) = soundsL m a b ((x : Int) / b) ((x : Int) % b))
theorem in_day {a b : Int} {x : Nat} (ha : 2 ≤ a) (hb : 2 ≤ b) (h : x < (a * b).toNat) : 0 ≤ (x : Int) / b ∧ (x : Int) / b < a ∧ 0 ≤ (x : Int) % b ∧ (x : Int) % b < b := by
  have hx2 : (x : Int) < a * b := by omega
  exact ⟨Int.ediv_nonneg (by omega) (by omega), Int.ediv_lt_of_lt_mul (by omega) hx2, Int.emod_nonneg _ (by omega), Int.emod_lt_of_pos _ (by omega)⟩
theorem of_day {a b h p : Int} (ha : 2 ≤ a) (hb : 2 ≤ b) (h0 : 0 ≤ h) (h1 : h < a) (p0 : 0 ≤ p) (p1 : p < b) : ∃ x : Nat, x < (a * b).toNat ∧ (x : Int) / b = h ∧ (x : Int) % b = p := by
  have e1 : 0 ≤ h * b := Int.mul_nonneg h0 (by omega)
  have e2 : (h + 1) * b ≤ a * b := Int.mul_le_mul_of_nonneg_right (by omega) (by omega)
  rw [Int.add_mul, Int.one_mul] at e2
  refine ⟨(h * b + p).toNat, by omega, ?_⟩
  have e3 : (((h * b + p).toNat : Nat) : Int) = p + h * b := by omega
  rw [e3, Int.add_mul_ediv_right _ _ (by omega), Int.add_mul_emod_self_right, Int.ediv_eq_zero_of_lt p0 p1, Int.emod_eq_of_lt p0 p1]
  simp
theorem mom_unlike {l m : List Ru} {a b : Int} (ha : 2 ≤ a) (hb : 2 ≤ b) : (momL l m a b).isSome = true ↔ Unlike l m a b := by
  unfold momL
  rw [List.find?_isSome]
  constructor
  · rintro ⟨x, hx, ne⟩
    obtain ⟨h0, h1, p0, p1⟩ := in_day ha hb (List.mem_range.mp hx)
    exact ⟨_, _, h0, h1, p0, p1, fun e => by simp [e] at ne⟩
  · rintro ⟨h, p, h0, h1, p0, p1, ne⟩
    obtain ⟨x, hx, rfl, rfl⟩ := of_day ha hb h0 h1 p0 p1
    exact ⟨x, List.mem_range.mpr hx, by simpa using ne⟩
def unlL (ls : List (Int × Int)) (l m : List Ru) : Option ((Int × Int) × Nat) := ls.findSome? fun ab => (momL l m ab.1 ab.2).map fun t => (ab, t)
theorem lands_10b : ∀ x ∈ landsL 10, 2 ≤ x.1 ∧ x.1 ≤ 10 ∧ 2 ≤ x.2 ∧ x.2 ≤ 10 := by
  have h : ((landsL 10).all fun x => decide (2 ≤ x.1) && decide (x.1 ≤ 10) && decide (2 ≤ x.2) && decide (x.2 ≤ 10)) = true := by decide +kernel
  intro x hx
  have := List.all_eq_true.mp h x hx
  simp only [Bool.and_eq_true, decide_eq_true_eq] at this
  omega
theorem lands_in (m : Nat) (h : ((List.range (m - 1)).all fun i => (List.range (m - 1)).all fun j => (landsL m).contains (((i + 2 : Nat) : Int), ((j + 2 : Nat) : Int))) = true) {a b : Int} (ha : 2 ≤ a) (ha2 : a ≤ m) (hb : 2 ≤ b) (hb2 : b ≤ m) : (a, b) ∈ landsL m := by
  have h1 := List.all_eq_true.mp h (a - 2).toNat (List.mem_range.mpr (by omega))
  have h2 := List.all_eq_true.mp h1 (b - 2).toNat (List.mem_range.mpr (by omega))
  have e1 : (((a - 2).toNat + 2 : Nat) : Int) = a := by omega
  have e2 : (((b - 2).toNat + 2 : Nat) : Int) = b := by omega
  rw [e1, e2] at h2
  exact List.contains_iff_mem.mp h2
theorem lands_in10 {a b : Int} (ha : 2 ≤ a) (ha2 : a ≤ 10) (hb : 2 ≤ b) (hb2 : b ≤ 10) : (a, b) ∈ landsL 10 := lands_in 10 (by decide +kernel) ha ha2 hb hb2
theorem unl_none {l m : List Ru} {n : Nat} (hn : ∀ x ∈ landsL n, 2 ≤ x.1 ∧ 2 ≤ x.2) : unlL (landsL n) l m = none ↔ ∀ x ∈ landsL n, ¬ Unlike l m x.1 x.2 := by
  unfold unlL
  rw [List.findSome?_eq_none_iff]
  constructor
  · intro h x hx u
    have := (mom_unlike (hn x hx).1 (hn x hx).2).mpr u
    have h2 := h x hx
    rw [Option.map_eq_none_iff] at h2
    rw [h2] at this; cases this
  · intro h x hx
    rw [Option.map_eq_none_iff]
    cases q : momL l m x.1 x.2 with
    | none => rfl
    | some t => exact absurd ((mom_unlike (hn x hx).1 (hn x hx).2).mp (by rw [q]; rfl)) (h x hx)
/-! ### where both sound -/
def Meets (l m : List Ru) (a b : Int) : Prop := ∃ h p, 0 ≤ h ∧ h < a ∧ 0 ≤ p ∧ p < b ∧ soundsL l a b h p ≠ [] ∧ soundsL m a b h p ≠ []
theorem sameC_ex {a a' h : Int} (ha : 5 ≤ a) (ha' : 5 ≤ a') (h0 : 0 ≤ h) (h1 : h < a) : ∃ h', 0 ≤ h' ∧ h' < a' ∧ SameC a h a' h' := by
  by_cases c1 : h ≤ 1
  · exact ⟨h, h0, by omega, sameC_low (by omega) (by omega) h0 c1⟩
  · by_cases c2 : a - 2 ≤ h
    · exact ⟨a' - (a - h), by omega, by omega, sameC_top (by omega) (by omega) c2 rfl⟩
    · exact ⟨2, by omega, by omega, sameC_mid (by omega) (by omega) (by omega) (by omega)⟩
theorem nil_cls {l : List Ru} {a b h p a' b' h' p' : Int} (hok : ∀ r ∈ l, r.ok) (s : SameC a h a' h') (s2 : SameC b p b' p') (ha : 2 ≤ a) (ha' : 2 ≤ a') (hb : 2 ≤ b) (hb' : 2 ≤ b') (h0 : soundsL l a b h p ≠ []) : soundsL l a' b' h' p' ≠ [] := fun e => h0 (sounds_nil.mpr fun lo => by rw [firstO_cls hok s s2 ha ha' hb hb']; exact sounds_nil.mp e lo)
theorem meets_h {l m : List Ru} {a a' b : Int} (hl : ∀ r ∈ l, r.ok) (hm : ∀ r ∈ m, r.ok) (ha : 5 ≤ a) (ha' : 5 ≤ a') (hb : 2 ≤ b) (u : Meets l m a b) : Meets l m a' b := by
  obtain ⟨h, p, h0, h1, p0, p1, n1, n2⟩ := u
  obtain ⟨h', g0, g1, s⟩ := sameC_ex ha ha' h0 h1
  exact ⟨h', p, g0, g1, p0, p1, nil_cls hl s SameC.rfl' (by omega) (by omega) hb hb n1, nil_cls hm s SameC.rfl' (by omega) (by omega) hb hb n2⟩
theorem meets_p {l m : List Ru} {a b b' : Int} (hl : ∀ r ∈ l, r.ok) (hm : ∀ r ∈ m, r.ok) (ha : 2 ≤ a) (hb : 5 ≤ b) (hb' : 5 ≤ b') (u : Meets l m a b) : Meets l m a b' := by
  obtain ⟨h, p, h0, h1, p0, p1, n1, n2⟩ := u
  obtain ⟨p', g0, g1, s⟩ := sameC_ex hb hb' p0 p1
  exact ⟨h, p', h0, h1, g0, g1, nil_cls hl SameC.rfl' s ha ha (by omega) (by omega) n1, nil_cls hm SameC.rfl' s ha ha (by omega) (by omega) n2⟩
def meetB (l m : List Ru) (a b : Int) : Bool := (List.range (a * b).toNat).any fun (x : Nat) => !decide (soundsL l a b ((x : Int) / b) ((x : Int) % b) = []) && !decide (soundsL m a b ((x : Int) / b) ((x : Int) % b) = [])
theorem meetB_iff {l m : List Ru} {a b : Int} (ha : 2 ≤ a) (hb : 2 ≤ b) : meetB l m a b = true ↔ Meets l m a b := by
  unfold meetB
  rw [List.any_eq_true]
  constructor
  · rintro ⟨x, hx, ne⟩
    obtain ⟨h0, h1, p0, p1⟩ := in_day ha hb (List.mem_range.mp hx)
    simp only [Bool.and_eq_true, Bool.not_eq_true', decide_eq_false_iff_not] at ne
    exact ⟨_, _, h0, h1, p0, p1, ne.1, ne.2⟩
  · rintro ⟨h, p, h0, h1, p0, p1, n1, n2⟩
    obtain ⟨x, hx, rfl, rfl⟩ := of_day ha hb h0 h1 p0 p1
    exact ⟨x, List.mem_range.mpr hx, by simp [n1, n2]⟩
/-- the first land where they meet, or do not -/
def togL (ls : List (Int × Int)) (l m : List Ru) (k : Bool) : Option (Int × Int) := ls.findSome? fun x => if meetB l m x.1 x.2 = k then some x else none
theorem meets_all {l m : List Ru} (hl : ∀ r ∈ l, r.ok) (hm : ∀ r ∈ m, r.ok) (h : ∀ x ∈ landsL 10, meetB l m x.1 x.2 = false) {a b : Int} (ha : 2 ≤ a) (hb : 2 ≤ b) : ¬ Meets l m a b := fun u => by
  obtain ⟨a', a1, a2, u⟩ : ∃ a', 2 ≤ a' ∧ a' ≤ 10 ∧ Meets l m a' b := by
    by_cases c : a ≤ 10
    · exact ⟨a, ha, c, u⟩
    · exact ⟨10, by omega, by omega, meets_h hl hm (by omega) (by omega) hb u⟩
  obtain ⟨b', b1, b2, u⟩ : ∃ b', 2 ≤ b' ∧ b' ≤ 10 ∧ Meets l m a' b' := by
    by_cases c : b ≤ 10
    · exact ⟨b, hb, c, u⟩
    · exact ⟨10, by omega, by omega, meets_p hl hm a1 (by omega) (by omega) u⟩
  have := h (a', b') (lands_in10 a1 a2 b1 b2)
  rw [(meetB_iff a1 b1).mpr u] at this
  cases this
end WL
/-! What the walks of the deciding ask. -/
namespace WL
open PySem PySem.Spec PyProof.Rows L2
theorem deq_pair (b b' : Bool) (n n' : Int) : deq (pairD b n) (pairD b' n') = decide ((b, n) = (b', n')) := by
  unfold pairD
  simp only [deq, deqs, Bool.and_true]
  rw [Bool.eq_iff_iff]
  simp only [Bool.and_eq_true, beq_iff_eq, decide_eq_true_eq, Prod.mk.injEq]
  constructor
  · rintro ⟨h1, h2⟩
    refine ⟨?_, h2⟩
    cases b <;> cases b' <;> first | rfl | (exfalso; revert h1; decide)
  · rintro ⟨h1, h2⟩
    exact ⟨by rw [h1], h2⟩
theorem deqs_snd : ∀ (s t : List (Bool × Int)), deqs (s.map fun x => pairD x.1 x.2) (t.map fun x => pairD x.1 x.2) = decide (s = t)
  | [], [] => by simp [deqs]
  | [], y :: t => by simp [deqs]
  | x :: s, [] => by simp [deqs]
  | x :: s, y :: t => by
    rw [List.map_cons, List.map_cons, deqs, deq_pair, deqs_snd s t]
    rw [Bool.eq_iff_iff]
    simp [Prod.ext_iff]
theorem deq_sounds (l m : List Ru) (a b h p a' b' h' p' : Int) : deq (soundsD l a b h p) (soundsD m a' b' h' p') = decide (soundsL l a b h p = soundsL m a' b' h' p') := by
  unfold soundsD
  rw [deq, deqs_snd]
def unlD (o : Option ((Int × Int) × Nat)) : D := match o with
  | none => .non
  | some x => .tup [prD x.1, .int (x.2 : Nat)]
theorem unlD_isN (o : Option ((Int × Int) × Nat)) : (unlD o).isN = o.isNone := by cases o <;> rfl
/-- the sounds are the same up to a moment of the day -/
def SameTo (l m : List Ru) (a b : Int) (n : Nat) : Prop := ∀ x : Nat, x < n → soundsL l a b ((x : Int) / b) ((x : Int) % b) = soundsL m a b ((x : Int) / b) ((x : Int) % b)
theorem same_zero {l m : List Ru} {a b : Int} : SameTo l m a b 0 := fun x hx => absurd hx (Nat.not_lt_zero _)
theorem same_succ {l m : List Ru} {a b : Int} {n : Nat} (h : SameTo l m a b n) (e : soundsL l a b ((n : Int) / b) ((n : Int) % b) = soundsL m a b ((n : Int) / b) ((n : Int) % b)) : SameTo l m a b (n + 1) := fun x hx => by
  by_cases q : x = n
  · rw [q]; exact e
  · exact h x (by omega)
theorem mom_none {l m : List Ru} {a b : Int} (h : SameTo l m a b (a * b).toNat) : momL l m a b = none := by
  unfold momL
  rw [List.find?_eq_none]
  intro x hx
  rw [decide_eq_true (h x (List.mem_range.mp hx))]; simp
theorem mom_at {l m : List Ru} {a b : Int} {n : Nat} (h : SameTo l m a b n) (hn : n < (a * b).toNat) (ne : ¬ soundsL l a b ((n : Int) / b) ((n : Int) % b) = soundsL m a b ((n : Int) / b) ((n : Int) % b)) : momL l m a b = some n := by
  unfold momL
  rw [List.find?_range_eq_some]
  refine ⟨?_, List.mem_range.mpr hn, fun j hj => ?_⟩
  · rw [decide_eq_false ne]; rfl
  · rw [decide_eq_true (h j hj)]; rfl
theorem unl_at {ls : List (Int × Int)} {l m : List Ru} {i t : Nat} {x : Int × Int} (h : ∀ j y, j < i → ls[j]? = some y → momL l m y.1 y.2 = none) (hx : ls[i]? = some x) (ht : momL l m x.1 x.2 = some t) : unlL ls l m = some (x, t) := by
  unfold unlL
  obtain ⟨hi, hx2⟩ := List.getElem?_eq_some_iff.mp hx
  rw [List.findSome?_eq_some_iff]
  refine ⟨ls.take i, x, ls.drop (i + 1), ?_, by rw [ht]; rfl, fun y hy => ?_⟩
  · rw [← hx2, List.getElem_cons_drop, List.take_append_drop]
  · obtain ⟨j, hj, rfl⟩ := List.getElem_of_mem hy
    rw [List.length_take] at hj
    rw [List.getElem_take, h j _ (by omega) (List.getElem?_eq_getElem (by omega))]; rfl
theorem unl_no {ls : List (Int × Int)} {l m : List Ru} (h : ∀ j y, j < ls.length → ls[j]? = some y → momL l m y.1 y.2 = none) : unlL ls l m = none := by
  unfold unlL
  rw [List.findSome?_eq_none_iff]
  intro x hx
  obtain ⟨j, hj, rfl⟩ := List.getElem_of_mem hx
  rw [h j _ hj (List.getElem?_eq_getElem hj)]; rfl
/-- the rows of a comprehension of two clauses -/
theorem flat_pairs (n : Nat) : ((List.range n).map fun (i : Nat) => (List.range n).map fun (j : Nat) => prD (((i + 2 : Nat) : Int), ((j + 2 : Nat) : Int))).flatten = (pairsL (n + 1)).map prD := by
  unfold pairsL
  rw [List.map_flatMap, List.flatMap_def, Nat.add_sub_cancel]
  congr 1
  apply List.map_congr_left
  intro i _
  rw [List.map_map]; rfl
theorem pairs_len (n : Nat) : (pairsL (n + 1)).length = n * n := by
  unfold pairsL
  rw [List.length_flatMap, Nat.add_sub_cancel]
  have h : ((List.range n).map fun a => ((List.range n).map fun (j : Nat) => (((a + 2 : Nat) : Int), ((j + 2 : Nat) : Int))).length) = List.replicate n n := by
    rw [List.eq_replicate_iff]
    refine ⟨by simp, fun b hb => ?_⟩
    obtain ⟨_, _, rfl⟩ := List.mem_map.mp hb
    simp
  rw [h, List.sum_replicate_nat]
theorem cut_drop {l : List D} {k : Int} (h0 : 0 ≤ k) : cutD l (some k) none = l.drop k.toNat := by
  obtain ⟨n, rfl⟩ := Int.eq_ofNat_of_zero_le h0
  unfold cutD
  rw [HT.sIx_nat, HT.sIx_none, Int.toNat_natCast]
  by_cases h : n ≤ l.length
  · rw [Nat.min_eq_left h, List.take_of_length_le (by rw [List.length_drop]; exact Nat.le_refl _)]
  · rw [Nat.min_eq_right (by omega), List.drop_of_length_le (Nat.le_refl _), List.drop_of_length_le (by omega)]; simp
theorem cut_take' {l : List D} {k : Int} (h0 : 0 ≤ k) : cutD l none (some k) = l.take k.toNat := by
  obtain ⟨n, rfl⟩ := Int.eq_ofNat_of_zero_le h0
  unfold cutD
  rw [HT.sIx_nat, HT.sIx_none, List.drop_zero, Nat.sub_zero, Int.toNat_natCast]
  by_cases h : n ≤ l.length
  · rw [Nat.min_eq_left h]
  · rw [Nat.min_eq_right (by omega), List.take_of_length_le (Nat.le_refl _), List.take_of_length_le (by omega)]
theorem cut_one {l : List D} {k : Nat} (h : k < l.length) : cutD l (some (k : Int)) (some ((k : Int) + 1)) = [l[k]] := by
  unfold cutD
  rw [show ((k : Int) + 1) = ((k + 1 : Nat) : Int) by omega, HT.sIx_nat, HT.sIx_nat, Nat.min_eq_left (by omega), Nat.min_eq_left (by omega)]
  have e : k + 1 - k = 1 := by omega
  rw [e, List.drop_eq_getElem_cons h]; rfl
end WL
namespace WL
open PySem PySem.Spec PyProof.Rows L2
theorem rus_ne {l : List Ru} (h : l ≠ []) : deq (rusD l) (.tup []) = false := by
  cases l with
  | nil => exact absurd rfl h
  | cons r l => rfl
theorem rus_cut {l : List Ru} {k : Nat} : cutD (l.map Ru.d) none (some (k : Int)) = (l.take k).map Ru.d ∧ cutD (l.map Ru.d) (some ((k : Int) + 1)) none = (l.drop (k + 1)).map Ru.d := by
  refine ⟨by rw [cut_take' (by omega), Int.toNat_natCast, List.map_take], ?_⟩
  rw [cut_drop (by omega), show ((k : Int) + 1).toNat = k + 1 by omega, List.map_drop]
theorem rus_one {l : List Ru} {k : Nat} (h : k < l.length) : cutD (l.map Ru.d) (some (k : Int)) (some ((k : Int) + 1)) = [l[k].d] := by
  rw [cut_one (by rw [List.length_map]; exact h), List.getElem_map]
theorem mem_cut {l : List Ru} {k : Nat} {r : Ru} (h : r ∈ l.take k ++ l.drop (k + 1)) : r ∈ l := by
  rcases List.mem_append.mp h with h | h
  · exact List.mem_of_mem_take h
  · exact List.mem_of_mem_drop h
end WL
/-! Strokes of a day by sorts of hours and parts; the form. -/
namespace WL
open PySem PySem.Spec PyProof.Rows L2
/-! ### sums over places -/
def rsum (n : Nat) (f : Int → Int) : Int := ((List.range n).map fun (i : Nat) => f (i : Int)).sum
theorem rsum_zero (f : Int → Int) : rsum 0 f = 0 := rfl
theorem rsum_succ (n : Nat) (f : Int → Int) : rsum (n + 1) f = rsum n f + f (n : Int) := by
  unfold rsum; rw [List.range_succ, List.map_append, List.sum_append]; simp
theorem rsum_congr {f g : Int → Int} : ∀ {n : Nat}, (∀ i : Int, 0 ≤ i → i < (n : Int) → f i = g i) → rsum n f = rsum n g
  | 0, _ => rfl
  | n + 1, h => by
    rw [rsum_succ, rsum_succ, rsum_congr (n := n) fun i a b => h i a (by omega), h n (by omega) (by omega)]
theorem rsum_split (f : Int → Int) (m : Nat) : ∀ k : Nat, rsum (m + k) f = rsum m f + rsum k fun i => f ((m : Int) + i)
  | 0 => by rw [Nat.add_zero, rsum_zero]; omega
  | k + 1 => by rw [← Nat.add_assoc, rsum_succ, rsum_succ, rsum_split f m k, Int.natCast_add]; omega
theorem rsum_prod (f : Int → Int → Int) {B : Nat} (hB : 0 < B) : ∀ A : Nat, rsum (A * B) (fun x => f (x / (B : Int)) (x % (B : Int))) = rsum A fun h => rsum B fun p => f h p
  | 0 => by rw [Nat.zero_mul]; rfl
  | A + 1 => by
    rw [Nat.succ_mul, rsum_split, rsum_succ, rsum_prod f hB A]
    congr 1
    refine rsum_congr fun i h0 h1 => ?_
    have hb : (0 : Int) < (B : Int) := by omega
    rw [Int.natCast_mul, Int.add_comm, Int.add_mul_ediv_right _ _ (by omega), Int.ediv_eq_zero_of_lt h0 h1, Int.zero_add, Int.add_mul_emod_self_right, Int.emod_eq_of_lt h0 h1]
theorem tri_step (m : Int) : (m + 3) * (m + 4) = (m + 2) * (m + 3) + 2 * (m + 3) := by grind
/-- places from 2 on that are alike -/
theorem rsum_mid {f : Int → Int} {a b : Int} : ∀ m : Nat, (∀ i : Int, 2 ≤ i → i < (m : Int) + 2 → f i = a + b * (i + 1)) → 2 * rsum (m + 2) f = 2 * (f 0 + f 1) + 2 * (a * (m : Int)) + b * (((m : Int) + 2) * ((m : Int) + 3) - 6)
  | 0, _ => by rw [rsum_succ, rsum_succ, rsum_zero]; simp
  | m + 1, h => by
    have ih := rsum_mid (f := f) (a := a) (b := b) m fun i h1 h2 => h i h1 (by omega)
    rw [show m + 1 + 2 = (m + 2) + 1 by omega, rsum_succ, h ((m + 2 : Nat) : Int) (by omega) (by omega), Int.mul_add, ih]
    have e1 : (((m + 1 : Nat) : Int) + 2) * (((m + 1 : Nat) : Int) + 3) = ((m : Int) + 2) * ((m : Int) + 3) + 2 * ((m : Int) + 3) := by
      rw [← tri_step]; congr 1 <;> omega
    rw [e1, show ((m + 2 : Nat) : Int) + 1 = (m : Int) + 3 by omega, show ((m + 1 : Nat) : Int) = (m : Int) + 1 by omega]
    generalize ((m : Int) + 2) * ((m : Int) + 3) = T
    grind
/-- one of them, how many, the sum of their numbers -/
def endL (i : Int) : Int × Int × Int := (i, 1, i + 1)
def sortsL (n : Int) : List (Int × Int × Int) :=
  if n ≤ 5 then (List.range n.toNat).map fun (i : Nat) => endL (i : Int) else [endL 0, endL 1, endL (n - 2), endL (n - 1), (2, n - 4, (n - 2) * (n - 1) / 2 - 3)]
theorem half_of {x y : Int} (h : 2 * y = x - 6) : x / 2 - 3 = y := by omega
theorem rsum_ends {f : Int → Int} {a b : Int} {n : Int} (hn : 4 ≤ n) (h : ∀ i : Int, 2 ≤ i → i < n - 2 → f i = a + b * (i + 1)) : 2 * rsum n.toNat f = 2 * (f 0 + f 1) + 2 * (a * (n - 4)) + b * ((n - 2) * (n - 1) - 6) + 2 * f (n - 2) + 2 * f (n - 1) := by
  obtain ⟨m, hm⟩ : ∃ m : Nat, n.toNat = m + 2 + 1 + 1 := ⟨n.toNat - 4, by omega⟩
  have hmn : (m : Int) = n - 4 := by omega
  have e := rsum_mid (f := f) (a := a) (b := b) m fun i h1 h2 => h i h1 (by omega)
  rw [hm, rsum_succ, rsum_succ, Int.mul_add, Int.mul_add, e, show ((m + 2 : Nat) : Int) = n - 2 by omega, show ((m + 2 + 1 : Nat) : Int) = n - 1 by omega, hmn, show n - 4 + 2 = n - 2 by omega, show n - 4 + 3 = n - 1 by omega]
theorem even_sorts (n : Int) : ∃ y, 2 * y = (n - 2) * (n - 1) - 6 := by
  obtain ⟨k, hk⟩ : ∃ k, n = 2 * k ∨ n = 2 * k + 1 := ⟨n / 2, by omega⟩
  rcases hk with rfl | rfl
  · exact ⟨(k - 1) * (2 * k - 1) - 3, by grind⟩
  · exact ⟨(2 * k - 1) * k - 3, by grind⟩
theorem sorts_sum {n : Int} (hn : 2 ≤ n) (α β : Int → Int) (hc : ∀ i, 2 ≤ i → i ≤ n - 3 → α i = α 2 ∧ β i = β 2) : rsum n.toNat (fun i => α i + β i * (i + 1)) = ((sortsL n).map fun x => α x.1 * x.2.1 + β x.1 * x.2.2).sum := by
  unfold sortsL
  by_cases h5 : n ≤ 5
  · rw [if_pos h5, List.map_map]
    unfold rsum
    congr 2
    funext i
    simp [endL]
  · rw [if_neg h5]
    obtain ⟨y, hy⟩ := even_sorts n
    have e := rsum_ends (f := fun i => α i + β i * (i + 1)) (a := α 2) (b := β 2) (n := n) (by omega) fun i h1 h2 => by
      show α i + β i * (i + 1) = _
      rw [(hc i h1 (by omega)).1, (hc i h1 (by omega)).2]
    rw [half_of hy]
    simp only [List.map_cons, List.map_nil, List.sum_cons, List.sum_nil, endL]
    rw [← hy] at e
    generalize rsum n.toNat (fun i => α i + β i * (i + 1)) = R at e
    have e2 : β 2 * (2 * y) = 2 * (β 2 * y) := by rw [Int.mul_left_comm]
    rw [e2] at e
    simp only [Int.mul_one]
    omega
/-! ### what is struck, counted -/
def tC (z : List (Bool × Of)) : Int := (z.map fun x => match x.2 with | .times n => n | _ => 0).sum
def hC (z : List (Bool × Of)) : Int := (z.map fun x => match x.2 with | .hours => 1 | _ => 0).sum
def pC (z : List (Bool × Of)) : Int := (z.map fun x => match x.2 with | .parts => 1 | _ => 0).sum
def Of.tot (o : Of) (mh sh mp sp : Int) : Int := match o with
  | .times n => n * mh * mp
  | .hours => sh * mp
  | .parts => mh * sp
theorem tot_sum (mh sh mp sp : Int) : ∀ z : List (Bool × Of), (z.map fun x => x.2.tot mh sh mp sp).sum = tC z * mh * mp + hC z * (sh * mp) + pC z * (mh * sp)
  | [] => by simp [tC, hC, pC]
  | (b, o) :: z => by
    have ih := tot_sum mh sh mp sp z
    unfold tC hC pC at ih ⊢
    simp only [List.map_cons, List.sum_cons]
    rw [ih]
    cases o <;> simp only [Of.tot] <;> grind
theorem num_sum (h p : Int) (z : List (Bool × Of)) : (z.map fun x => x.2.num h p).sum = tC z + hC z * (h + 1) + pC z * (p + 1) := by
  have e := tot_sum 1 (h + 1) 1 (p + 1) z
  simp only [Int.mul_one, Int.one_mul] at e
  rw [← e]
  congr 2
  funext x
  cases x.2 <;> simp [Of.num, Of.tot] <;> omega
theorem snd_struck (l : List Ru) (a b h p : Int) : sndN (soundsL l a b h p) = ((struckL l a b h p).map fun x => x.2.num h p).sum := by
  have hnd := st_nd l [] a b h p List.nodup_nil
  have f0 := struck_find l false a b h p
  have f1 := struck_find l true a b h p
  unfold sndN soundsL
  unfold struckL at f0 f1 ⊢
  rcases st_few hnd with e | ⟨x, e⟩ | ⟨x, y, e, hn⟩
  · rw [e] at f0 f1 ⊢
    cases g0 : firstO l false a b h p <;> cases g1 : firstO l true a b h p <;> simp_all
  · rw [e] at f0 f1 ⊢
    obtain ⟨xb, xo⟩ := x
    cases xb <;> cases g0 : firstO l false a b h p <;> cases g1 : firstO l true a b h p <;> simp_all
  · rw [e] at f0 f1 ⊢
    obtain ⟨xb, xo⟩ := x
    obtain ⟨yb, yo⟩ := y
    cases xb <;> cases yb <;> cases g0 : firstO l false a b h p <;> cases g1 : firstO l true a b h p <;> simp_all <;> omega
theorem struck_cls {l : List Ru} {a b h p a' b' h' p' : Int} (hok : ∀ r ∈ l, r.ok) (s : SameC a h a' h') (s2 : SameC b p b' p') (ha : 2 ≤ a) (ha' : 2 ≤ a') (hb : 2 ≤ b) (hb' : 2 ≤ b') : struckL l a b h p = struckL l a' b' h' p' := by
  unfold struckL
  generalize ([] : List (Bool × Of)) = acc
  induction l generalizing acc with
  | nil => rfl
  | cons r l ih =>
    have hr := hok r List.mem_cons_self
    have : r.fit a b h p = r.fit a' b' h' p' := by
      unfold Ru.fit
      rw [s.has ha ha' hr.1, s2.has hb hb' hr.2.1]
    rw [List.foldl_cons, List.foldl_cons, ih fun x hx => hok x (List.mem_cons_of_mem _ hx)]
    unfold stStep
    rw [this]
/-! ### a day's strokes -/
theorem dayN_sum {l : List Ru} {a b : Int} (ha : 2 ≤ a) (hb : 2 ≤ b) : (dayN l a b).sum = rsum a.toNat fun h => rsum b.toNat fun p => sndN (soundsL l a b h p) := by
  have hab : (a * b).toNat = a.toNat * b.toNat := by
    rw [Int.toNat_mul (by omega) (by omega)]
  have hb2 : ((b.toNat : Nat) : Int) = b := by omega
  have e := rsum_prod (fun h p => sndN (soundsL l a b h p)) (B := b.toNat) (by omega) a.toNat
  rw [← e, hb2, ← hab]
  unfold dayN dayS rsum
  rw [List.map_map]
  rfl
theorem sum_map_congr {α : Type} {f g : α → Int} {l : List α} (h : ∀ x ∈ l, f x = g x) : (l.map f).sum = (l.map g).sum := by
  rw [List.map_congr_left h]
theorem sum_map_add {α : Type} (f g : α → Int) : ∀ l : List α, (l.map fun x => f x + g x).sum = (l.map f).sum + (l.map g).sum
  | [] => rfl
  | x :: l => by simp only [List.map_cons, List.sum_cons]; rw [sum_map_add f g l]; omega
theorem sum_map_mul {α : Type} (f : α → Int) (k : Int) : ∀ l : List α, (l.map fun x => f x * k).sum = (l.map f).sum * k
  | [] => by simp
  | x :: l => by simp only [List.map_cons, List.sum_cons]; rw [sum_map_mul f k l, Int.add_mul]
/-- the strokes of a day, sort by sort -/
def strL (l : List Ru) (a b : Int) : Int := ((sortsL a).map fun x => ((sortsL b).map fun y => ((struckL l a b x.1 y.1).map fun z => z.2.tot x.2.1 x.2.2 y.2.1 y.2.2).sum).sum).sum
theorem inner_sum {l : List Ru} {a b h : Int} (hok : ∀ r ∈ l, r.ok) (ha : 2 ≤ a) (hb : 2 ≤ b) : rsum b.toNat (fun p => sndN (soundsL l a b h p)) =
    ((sortsL b).map fun y => tC (struckL l a b h y.1) * y.2.1 + pC (struckL l a b h y.1) * y.2.2).sum + ((sortsL b).map fun y => hC (struckL l a b h y.1) * y.2.1).sum * (h + 1) := by
  have e := sorts_sum (n := b) hb (fun p => tC (struckL l a b h p) + hC (struckL l a b h p) * (h + 1)) (fun p => pC (struckL l a b h p)) fun i h1 h2 => by
    have := struck_cls hok (SameC.rfl' (a := a) (h := h)) (sameC_mid (a := b) (a' := b) h1 h2 (Int.le_refl 2) (by omega)) ha ha hb hb
    rw [this]; exact ⟨rfl, rfl⟩
  rw [← sum_map_mul, ← sum_map_add]
  rw [show rsum b.toNat (fun p => sndN (soundsL l a b h p)) = rsum b.toNat (fun i => tC (struckL l a b h i) + hC (struckL l a b h i) * (h + 1) + pC (struckL l a b h i) * (i + 1)) from rsum_congr fun i _ _ => by rw [snd_struck, num_sum], e]
  refine sum_map_congr fun y _ => ?_
  grind
theorem str_day {l : List Ru} {a b : Int} (hok : ∀ r ∈ l, r.ok) (ha : 2 ≤ a) (hb : 2 ≤ b) : strL l a b = (dayN l a b).sum := by
  rw [dayN_sum ha hb]
  rw [show (rsum a.toNat fun h => rsum b.toNat fun p => sndN (soundsL l a b h p)) = rsum a.toNat fun h => ((sortsL b).map fun y => tC (struckL l a b h y.1) * y.2.1 + pC (struckL l a b h y.1) * y.2.2).sum + ((sortsL b).map fun y => hC (struckL l a b h y.1) * y.2.1).sum * (h + 1) from rsum_congr fun h _ _ => inner_sum hok ha hb]
  rw [sorts_sum ha _ _ fun i h1 h2 => ?_]
  · unfold strL
    refine sum_map_congr fun x _ => ?_
    rw [← sum_map_mul, ← sum_map_mul, ← sum_map_add]
    refine sum_map_congr fun y _ => ?_
    rw [tot_sum]
    grind
  · have h3 : ∀ p, struckL l a b i p = struckL l a b 2 p := fun p => struck_cls hok (sameC_mid (a := a) (a' := a) h1 h2 (Int.le_refl 2) (by omega)) (SameC.rfl' (a := b) (h := p)) ha ha hb hb
    simp only [h3, and_self]
/-! ### for the walk -/
def triD (x : Int × Int × Int) : D := .tup [.int x.1, .int x.2.1, .int x.2.2]
def strXY (l : List Ru) (a b : Int) (x y : Int × Int × Int) : Int := ((struckL l a b x.1 y.1).map fun z => z.2.tot x.2.1 x.2.2 y.2.1 y.2.2).sum
def strX (l : List Ru) (a b : Int) (x : Int × Int × Int) : Int := ((sortsL b).map (strXY l a b x)).sum
theorem sorts_few {n : Int} (h : n ≤ 5) : sortsL n = (List.range n.toNat).map fun (i : Nat) => endL (i : Int) := by unfold sortsL; rw [if_pos h]
theorem sorts_many {n : Int} (h : ¬ n ≤ 5) : sortsL n = [endL 0, endL 1, endL (n - 2), endL (n - 1), (2, n - 4, (n - 2) * (n - 1) / 2 - 3)] := by unfold sortsL; rw [if_neg h]
theorem sorts_wid {n : Int} (h2 : 2 ≤ n) (hg : n ≤ G30) : ∀ u ∈ sortsL n, (0 ≤ u.2.1 ∧ u.2.1 ≤ 10 ^ 31) ∧ (-3 ≤ u.2.2 ∧ u.2.2 ≤ 10 ^ 61) := fun u hu => by
  unfold G30 at hg
  by_cases h5 : n ≤ 5
  · rw [sorts_few h5] at hu
    obtain ⟨i, hi, rfl⟩ := List.mem_map.mp hu
    have := List.mem_range.mp hi
    simp only [endL]
    omega
  · rw [sorts_many h5] at hu
    have a1 : 0 ≤ (n - 2) * (n - 1) := Int.mul_nonneg (by omega) (by omega)
    have a2 : (n - 2) * (n - 1) ≤ 1000000000000000000000000000000 * 1000000000000000000000000000000 := Int.mul_le_mul (by omega) (by omega) (by omega) (by omega)
    have e1 : (1000000000000000000000000000000 : Int) * 1000000000000000000000000000000 = 10 ^ 60 := by decide
    rw [e1] at a2
    generalize (n - 2) * (n - 1) = T at *
    have e4 : (10 : Int) ^ 31 = 10000000000000000000000000000000 := by decide
    have e5 : (10 : Int) ^ 61 = 10000000000000000000000000000000000000000000000000000000000000 := by decide
    have e6 : (10 : Int) ^ 60 = 1000000000000000000000000000000000000000000000000000000000000 := by decide
    rw [e6] at a2
    rw [e4, e5]
    simp only [List.mem_cons, List.not_mem_nil, or_false] at hu
    rcases hu with rfl | rfl | rfl | rfl | rfl <;> (simp only [endL]; omega)
theorem times_wid {n m : Int} (h : 1 ≤ n ∧ n ≤ 3) (hm : 0 ≤ m ∧ m ≤ 10 ^ 31) : Wid (n * m) := by
  have a1 : 0 ≤ n * m := Int.mul_nonneg (by omega) hm.1
  have a2 : n * m ≤ 3 * 10 ^ 31 := Int.mul_le_mul h.2 hm.2 hm.1 (by omega)
  exact wid_of (by omega) (by omega)
theorem struck_ok {l : List Ru} {a b h p : Int} (hok : ∀ r ∈ l, r.ok) : ∀ {z : Bool × Of}, z ∈ struckL l a b h p → z.2.ok := by
  have key : ∀ (l : List Ru) (acc : List (Bool × Of)), (∀ r ∈ l, r.ok) → (∀ z ∈ acc, z.2.ok) → ∀ z ∈ l.foldl (stStep a b h p) acc, z.2.ok := by
    intro l
    induction l with
    | nil => intro acc _ h2; exact h2
    | cons r l ih =>
      intro acc h1 h2
      refine ih _ (fun x hx => h1 x (List.mem_cons_of_mem _ hx)) ?_
      unfold stStep
      split
      · intro z hz
        rcases List.mem_append.mp hz with hz | hz
        · exact h2 z hz
        · have : z = (r.low, r.o) := by simpa using hz
          subst this
          exact (h1 r List.mem_cons_self).2.2
      · exact h2
  intro z hz
  exact key l [] hok (fun z hz => absurd hz List.not_mem_nil) z hz
end WL
/-! Needless rules, rules that change places. -/
namespace WL
open PySem PySem.Spec PyProof.Rows L2
def dropAt (l : List Ru) (k : Nat) : List Ru := l.take k ++ l.drop (k + 1)
def swapAt (l : List Ru) (k : Nat) : List Ru := match l[k]?, l[k + 1]? with
  | some x, some y => l.take k ++ (y :: x :: l.drop (k + 2))
  | _, _ => l
def sameB (n : Nat) (l m : List Ru) : Bool := (unlL (landsL n) l m).isNone
def needL (l : List Ru) : List Nat := (List.range l.length).filter fun k => sameB 10 l (dropAt l k)
def swapsL (l : List Ru) : List Nat := (List.range (l.length - 1)).filter fun k => sameB 10 l (swapAt l k)
def natsD (l : List Nat) : List D := l.map fun (k : Nat) => D.int (k : Int)
theorem drop_ok {l : List Ru} (h : ∀ r ∈ l, r.ok) (k : Nat) : ∀ r ∈ dropAt l k, r.ok := fun r hr => h r (mem_cut hr)
theorem drop_len (l : List Ru) (k : Nat) : (dropAt l k).length ≤ l.length := by
  unfold dropAt
  rw [List.length_append, List.length_take, List.length_drop]; omega
theorem swap_eq {l : List Ru} {k : Nat} (h : k + 1 < l.length) : swapAt l k = l.take k ++ (l[k + 1] :: l[k] :: l.drop (k + 2)) := by
  unfold swapAt
  rw [List.getElem?_eq_getElem (show k < l.length by omega), List.getElem?_eq_getElem h]
theorem swap_no {l : List Ru} {k : Nat} (h : ¬ k + 1 < l.length) : swapAt l k = l := by
  unfold swapAt
  rw [List.getElem?_eq_none (l := l) (i := k + 1) (by omega)]
  cases l[k]? <;> rfl
theorem swap_ok {l : List Ru} (h : ∀ r ∈ l, r.ok) (k : Nat) : ∀ r ∈ swapAt l k, r.ok := fun r hr => by
  by_cases hk : k + 1 < l.length
  · rw [swap_eq hk] at hr
    rcases List.mem_append.mp hr with hr | hr
    · exact h r (List.mem_of_mem_take hr)
    · rcases List.mem_cons.mp hr with rfl | hr
      · exact h _ (List.getElem_mem hk)
      · rcases List.mem_cons.mp hr with rfl | hr
        · exact h _ (List.getElem_mem (by omega))
        · exact h r (List.mem_of_mem_drop hr)
  · rw [swap_no hk] at hr; exact h r hr
theorem swap_len (l : List Ru) (k : Nat) : (swapAt l k).length ≤ l.length := by
  by_cases hk : k + 1 < l.length
  · rw [swap_eq hk, List.length_append, List.length_take, List.length_cons, List.length_cons, List.length_drop]; omega
  · rw [swap_no hk]; exact Nat.le_refl _
theorem nats_range {i : Nat} {p : Nat → Bool} : natsD ((List.range (i + 1)).filter p) = natsD ((List.range i).filter p) ++ if p i = true then [D.int (i : Int)] else [] := by
  unfold natsD
  rw [List.range_succ, List.filter_append, List.map_append]
  congr 1
  by_cases h : p i = true
  · rw [if_pos h, List.filter_cons_of_pos h]; rfl
  · rw [if_neg h, List.filter_cons_of_neg h]; rfl
theorem nats_len {i : Nat} {p : Nat → Bool} : (natsD ((List.range i).filter p)).length ≤ i := by
  unfold natsD
  rw [List.length_map]
  exact Nat.le_trans (List.length_filter_le _ _) (by simp)
theorem pl_nats {l : List Nat} (h : l.length ≤ 1000) : Pl 2 (.lst (natsD l)) := ⟨by unfold natsD; rw [List.length_map]; exact h, fun x hx => by
  obtain ⟨k, _, rfl⟩ := List.mem_map.mp hx
  trivial⟩
theorem rus_cut2 {l : List Ru} {k : Nat} : cutD (l.map Ru.d) (some ((k : Int) + 2)) none = (l.drop (k + 2)).map Ru.d := by
  rw [cut_drop (by omega), show ((k : Int) + 2).toNat = k + 2 by omega, List.map_drop]
end WL
namespace WL
open PySem PySem.Spec PyProof.Rows L2
def idxP (q : Nat → Bool) (d : D) : Bool := match d with
  | .int i => q i.toNat
  | _ => false
end WL
/-! What was heard: the moments from which a row is heard. -/
namespace WL
open PySem PySem.Spec PyProof.Rows L2
abbrev Snd := List (Bool × Int)
theorem snd_pair (s : Snd) (i : Nat) (d : D) (h : (s.map fun x => pairD x.1 x.2)[i]? = some d) : ∃ (lo : Bool) (n : Int), d = .tup [.str (bellS lo), .int n] := by
  rw [List.getElem?_map] at h
  obtain ⟨x, _, rfl⟩ := Option.map_eq_some_iff.mp h
  exact ⟨x.1, x.2, rfl⟩
theorem pl_snd {s : Snd} (h : s.length ≤ 1000) : Pl 3 (sndD s) := ⟨by rw [List.length_map]; exact h, fun x hx => by
  obtain ⟨y, _, rfl⟩ := List.mem_map.mp hx
  exact pl_pair _ _⟩
theorem nats_rng (n : Nat) : rangeD 0 n = natsD (List.range n) := by
  unfold rangeD natsD
  exact List.map_congr_left fun i _ => by simp
theorem filter_nats2 (q : Nat → Bool) (l : List Nat) : ((natsD l).filter fun d => idxP q d).map id = natsD (l.filter q) := by
  unfold natsD
  rw [List.map_id, List.filter_map]
  congr 1
end WL
/-! A listener: where it can stand. -/
namespace WL
open PySem PySem.Spec PyProof.Rows L2
theorem dayS_two {l : List Ru} {a b : Int} : ∀ s ∈ dayS l a b, s.length ≤ 2 := fun s hs => by
  obtain ⟨k, _, rfl⟩ := List.mem_map.mp hs
  exact List.length_filterMap_le _ _
end WL
/-! How long one must listen: moments in groups by what was heard. -/
namespace WL
open PySem PySem.Spec PyProof.Rows L2
def skS (s : Snd) : SK := s.map fun x => (bellS x.1, x.2)
theorem skS_D (s : Snd) : skD (skS s) = sndD s := by
  unfold skD skS sndD
  rw [List.map_map]; rfl
theorem skS_inj {s t : Snd} (h : skS s = skS t) : s = t := by
  unfold skS at h
  refine (List.map_inj_right fun x y e => ?_).mp h
  simp only [Prod.mk.injEq] at e
  obtain ⟨a, n⟩ := x
  obtain ⟨b, m⟩ := y
  obtain ⟨e1, e2⟩ := e
  have e1 : bellS a = bellS b := e1
  have : a = b := by cases a <;> cases b <;> first | rfl | exact absurd e1 (by decide)
  subst this
  have e2 : n = m := e2
  rw [e2]
/-! ### one group by a key -/
section
variable (key : Nat → Snd) (g : List Nat)
def keyG (j : Nat) : Snd := key (g.getD j 0)
def firstB (j : Nat) : Bool := !(g.take j).any fun m => decide (key m = keyG key g j)
def ixP (i : Nat) : List Nat := (List.range i).filter (firstB key g)
def cellP (i j : Nat) : List Nat := if firstB key g j = true then (g.take i).filter (fun m => decide (key m = keyG key g j)) else []
def cellsP (i : Nat) : List (List Nat) := (List.range i).map (cellP key g i)
def keysP (i : Nat) : List Snd := (ixP key g i).map (keyG key g)
end
section
variable {key : Nat → Snd} {g : List Nat}
theorem keyG_at {i m : Nat} (h : g[i]? = some m) : keyG key g i = key m := by
  unfold keyG; rw [List.getD_eq_getElem?_getD, h]; rfl
theorem first_uniq {i j : Nat} (hi : i < g.length) (hj : j < g.length) (fi : firstB key g i = true) (fj : firstB key g j = true) (e : keyG key g i = keyG key g j) : i = j := by
  have no : ∀ {a b : Nat}, a < b → a < g.length → firstB key g b = true → keyG key g a ≠ keyG key g b := fun {a b} hab ha fb e => by
    unfold firstB at fb
    rw [Bool.not_eq_true'] at fb
    have hm : g[a] ∈ g.take b := by
      rw [List.mem_iff_getElem?]
      exact ⟨a, by rw [List.getElem?_take, if_pos hab, List.getElem?_eq_getElem ha]⟩
    have := List.any_eq_false.mp fb _ hm
    rw [← e, keyG_at (List.getElem?_eq_getElem ha)] at this
    simp at this
  rcases Nat.lt_trichotomy i j with h | h | h
  · exact absurd e (no h hi fj)
  · exact h
  · exact absurd e.symm (no h hj fi)
theorem keys_nd {i : Nat} (hi : i ≤ g.length) : (keysP key g i).Nodup := by
  unfold keysP ixP
  refine List.pairwise_map.mpr (List.Pairwise.imp_of_mem (fun {a b} ha hb hne e => hne ?_) (List.Pairwise.filter _ List.nodup_range))
  obtain ⟨a1, a2⟩ := List.mem_filter.mp ha
  obtain ⟨b1, b2⟩ := List.mem_filter.mp hb
  have := List.mem_range.mp a1
  have := List.mem_range.mp b1
  exact first_uniq (by omega) (by omega) a2 b2 e
theorem mem_keys {k : Snd} : ∀ {i : Nat}, i ≤ g.length → (k ∈ keysP key g i ↔ ∃ m ∈ g.take i, key m = k)
  | 0, _ => by simp [keysP, ixP]
  | i + 1, hi => by
    have ih := mem_keys (k := k) (i := i) (by omega)
    have hg : g[i]? = some g[i] := List.getElem?_eq_getElem (by omega)
    have hk := keyG_at (key := key) hg
    have e1 : ixP key g (i + 1) = ixP key g i ++ if firstB key g i = true then [i] else [] := by
      unfold ixP
      rw [List.range_succ, List.filter_append]
      congr 1
      cases hf : firstB key g i <;> simp [hf]
    rw [take_succ_get hg]
    unfold keysP at ih ⊢
    rw [e1, List.map_append, List.mem_append, ih]
    constructor
    · rintro (⟨m, h1, h2⟩ | h)
      · exact ⟨m, List.mem_append_left _ h1, h2⟩
      · split at h
        · have : k = keyG key g i := by simpa using h
          exact ⟨g[i], List.mem_append_right _ List.mem_cons_self, by rw [this, hk]⟩
        · simp at h
    · rintro ⟨m, h1, h2⟩
      rcases List.mem_append.mp h1 with h1 | h1
      · exact .inl ⟨m, h1, h2⟩
      · have : m = g[i] := by simpa using h1
        subst this
        cases hf : firstB key g i with
        | true => exact .inr (by simp [hk, h2])
        | false =>
          unfold firstB at hf
          rw [Bool.not_eq_false'] at hf
          obtain ⟨m', q1, q2⟩ := List.any_eq_true.mp hf
          have q2 : key m' = keyG key g i := of_decide_eq_true q2
          exact .inl ⟨m', q1, by rw [q2, hk, h2]⟩
theorem ix_succ {i : Nat} : ixP key g (i + 1) = ixP key g i ++ if firstB key g i = true then [i] else [] := by
  unfold ixP
  rw [List.range_succ, List.filter_append]
  congr 1
  cases hf : firstB key g i <;> simp [hf]
theorem first_iff {i m : Nat} (hg : g[i]? = some m) : firstB key g i = true ↔ key m ∉ keysP key g i := by
  have hi : i < g.length := (List.getElem?_eq_some_iff.mp hg).1
  rw [mem_keys (by omega)]
  unfold firstB
  rw [keyG_at hg, Bool.not_eq_true', List.any_eq_false]
  constructor
  · rintro h ⟨m', h1, h2⟩
    exact h m' h1 (by simp [h2])
  · intro h m' h1 h2
    exact h ⟨m', h1, of_decide_eq_true h2⟩
/-- a new key -/
theorem cells_new {i m : Nat} (hg : g[i]? = some m) (h : key m ∉ keysP key g i) : cellsP key g (i + 1) = cellsP key g i ++ [[m]] ∧ ixP key g (i + 1) = ixP key g i ++ [i] ∧ keysP key g (i + 1) = keysP key g i ++ [key m] := by
  have hi : i < g.length := (List.getElem?_eq_some_iff.mp hg).1
  have hf := (first_iff hg).mpr h
  have e1 : ixP key g (i + 1) = ixP key g i ++ [i] := by rw [ix_succ, if_pos hf]
  refine ⟨?_, e1, by unfold keysP; rw [e1, List.map_append]; simp [keyG_at hg]⟩
  have hno : ∀ m' ∈ g.take i, key m' ≠ key m := fun m' h1 h2 => h ((mem_keys (by omega)).mpr ⟨m', h1, h2⟩)
  unfold cellsP
  rw [List.range_succ, List.map_append]
  congr 1
  · refine List.map_congr_left fun j hj => ?_
    have hj := List.mem_range.mp hj
    unfold cellP
    split
    · rw [take_succ_get hg, List.filter_append]
      have : ¬ key m = keyG key g j := fun e => by
        have hjm : g[j] ∈ g.take i := by
          rw [List.mem_iff_getElem?]
          exact ⟨j, by rw [List.getElem?_take, if_pos hj, List.getElem?_eq_getElem (by omega)]⟩
        exact hno _ hjm (by rw [e, keyG_at (List.getElem?_eq_getElem (by omega))])
      simp [this]
    · rfl
  · simp only [List.map_cons, List.map_nil, List.cons.injEq, and_true]
    unfold cellP
    rw [if_pos hf, take_succ_get hg, List.filter_append, keyG_at hg]
    have : (g.take i).filter (fun m' => decide (key m' = key m)) = [] := List.filter_eq_nil_iff.mpr fun m' h1 => by simp [hno m' h1]
    rw [this]; simp
/-- a key that is there -/
theorem cells_old {i m t : Nat} (hg : g[i]? = some m) (h : (keysP key g i)[t]? = some (key m)) :
    ∃ j, (ixP key g i)[t]? = some j ∧ j < i ∧ cellsP key g (i + 1) = ((cellsP key g i).set j ((cellsP key g i).getD j [] ++ [m])) ++ [[]] ∧ ixP key g (i + 1) = ixP key g i ∧ keysP key g (i + 1) = keysP key g i := by
  have hi : i < g.length := (List.getElem?_eq_some_iff.mp hg).1
  unfold keysP at h
  rw [List.getElem?_map] at h
  obtain ⟨j, hj, ek⟩ := Option.map_eq_some_iff.mp h
  have hjm := List.mem_of_getElem? hj
  obtain ⟨hjr, hjf⟩ := List.mem_filter.mp hjm
  have hji := List.mem_range.mp hjr
  have hin : key m ∈ keysP key g i := by unfold keysP; exact List.mem_of_getElem? (by rw [List.getElem?_map, hj]; exact congrArg some ek)
  have hf : firstB key g i ≠ true := fun z => (first_iff hg).mp z hin
  have e1 : ixP key g (i + 1) = ixP key g i := by rw [ix_succ, if_neg hf, List.append_nil]
  refine ⟨j, hj, hji, ?_, e1, by unfold keysP; rw [e1]⟩
  have hcj : (cellsP key g i).getD j [] = cellP key g i j := by
    unfold cellsP
    rw [List.getD_eq_getElem?_getD, List.getElem?_map, List.getElem?_range hji]; rfl
  rw [hcj]
  have hlast : cellP key g (i + 1) i = [] := by unfold cellP; rw [if_neg hf]
  refine List.ext_getElem? fun q => ?_
  have hlen : (cellsP key g i).length = i := by unfold cellsP; simp
  by_cases hq : q < i
  · rw [List.getElem?_append_left (by rw [List.length_set, hlen]; exact hq)]
    have l1 : (cellsP key g (i + 1))[q]? = some (cellP key g (i + 1) q) := by unfold cellsP; rw [List.getElem?_map, List.getElem?_range (by omega)]; rfl
    have l2 : (cellsP key g i)[q]? = some (cellP key g i q) := by unfold cellsP; rw [List.getElem?_map, List.getElem?_range hq]; rfl
    rw [l1]
    by_cases ejq : j = q
    · subst ejq
      rw [List.getElem?_set_self (by rw [hlen]; exact hq)]
      unfold cellP
      rw [if_pos hjf, if_pos hjf, take_succ_get hg, List.filter_append]
      simp [ek]
    · rw [List.getElem?_set_ne ejq, l2]
      unfold cellP
      split
      · rename_i hfq
        rw [take_succ_get hg, List.filter_append]
        have : ¬ key m = keyG key g q := fun e => ejq (first_uniq (by omega) (by omega) hjf hfq (ek.trans e))
        simp [this]
      · rfl
  · by_cases hq2 : q = i
    · subst hq2
      rw [List.getElem?_append_right (by rw [List.length_set, hlen]; exact Nat.le_refl _), List.length_set, hlen, Nat.sub_self]
      unfold cellsP
      rw [List.getElem?_map, List.getElem?_range (by omega)]
      show some (cellP key g (q + 1) q) = _
      rw [hlast]; rfl
    · rw [List.getElem?_eq_none (by unfold cellsP; simp; omega), List.getElem?_eq_none (by rw [List.length_append, List.length_set, hlen]; simp; omega)]
theorem cells_len {i : Nat} : (cellsP key g i).length = i := by unfold cellsP; simp
theorem ix_lt {i : Nat} : ∀ j ∈ ixP key g i, j < i := fun j hj => List.mem_range.mp (List.mem_filter.mp hj).1
end
/-- a group's parts that are more than one moment -/
def stepG (key : Nat → Snd) (g : List Nat) : List (List Nat) := ((ixP key g g.length).map fun j => (cellsP key g g.length).getD j []).filter fun p => decide (1 < p.length)
theorem part_eq {key : Nat → Snd} {g : List Nat} {j : Nat} (hj : j ∈ ixP key g g.length) : (cellsP key g g.length).getD j [] = g.filter fun m => decide (key m = keyG key g j) := by
  obtain ⟨h1, h2⟩ := List.mem_filter.mp hj
  unfold cellsP
  rw [List.getD_eq_getElem?_getD, List.getElem?_map, List.getElem?_range (List.mem_range.mp h1)]
  show cellP key g g.length j = _
  unfold cellP
  rw [if_pos h2, List.take_length]
/-! ### all groups -/
def keyAt (ss : List Snd) (L : Nat) (m : Nat) : Snd := ss.getD ((m + L) % ss.length) []
def grpL (ss : List Snd) : Nat → List (List Nat)
  | 0 => [List.range ss.length]
  | L + 1 => (grpL ss L).flatMap (stepG (keyAt ss L))
/-- the same is heard L times from two moments -/
def winE (ss : List Snd) (L m n : Nat) : Prop := ∀ k, k < L → keyAt ss k m = keyAt ss k n
theorem grp_in {ss : List Snd} : ∀ (L : Nat), ∀ g ∈ grpL ss L, g.Nodup ∧ (∀ m ∈ g, m < ss.length) ∧ (1 ≤ L → 1 < g.length) ∧ ∀ m ∈ g, ∀ n ∈ g, winE ss L m n
  | 0, g, hg => by
    have : g = List.range ss.length := by simpa [grpL] using hg
    subst this
    exact ⟨List.nodup_range, fun m hm => List.mem_range.mp hm, fun h => absurd h (by decide), fun _ _ _ _ k hk => absurd hk (Nat.not_lt_zero _)⟩
  | L + 1, g', hg' => by
    obtain ⟨g, hg, h1⟩ := List.mem_flatMap.mp hg'
    obtain ⟨i1, i2, i3, i4⟩ := grp_in L g hg
    unfold stepG at h1
    obtain ⟨h2, h3⟩ := List.mem_filter.mp h1
    obtain ⟨j, hj, rfl⟩ := List.mem_map.mp h2
    rw [part_eq hj] at h3 ⊢
    refine ⟨List.Pairwise.filter _ i1, fun m hm => i2 m (List.mem_filter.mp hm).1, fun _ => of_decide_eq_true h3, fun m hm n hn k hk => ?_⟩
    obtain ⟨m1, m2⟩ := List.mem_filter.mp hm
    obtain ⟨n1, n2⟩ := List.mem_filter.mp hn
    by_cases hkL : k < L
    · exact i4 m m1 n n1 k hkL
    · have : k = L := by omega
      subst this
      rw [of_decide_eq_true m2, of_decide_eq_true n2]
theorem two_mem {l : List Nat} {m n : Nat} (hm : m ∈ l) (hn : n ∈ l) (h : m ≠ n) : 1 < l.length := by
  match l, hm, hn with
  | [x], hm, hn => simp at hm hn; omega
  | x :: y :: r, _, _ => simp
theorem grp_of {ss : List Snd} {m n : Nat} (hm : m < ss.length) (hn : n < ss.length) (hne : m ≠ n) : ∀ (L : Nat), winE ss L m n → ∃ g ∈ grpL ss L, m ∈ g ∧ n ∈ g
  | 0, _ => ⟨_, List.mem_cons_self, List.mem_range.mpr hm, List.mem_range.mpr hn⟩
  | L + 1, h => by
    obtain ⟨g, hg, g1, g2⟩ := grp_of hm hn hne L fun k hk => h k (by omega)
    have hk := h L (by omega)
    have : keyAt ss L m ∈ keysP (keyAt ss L) g g.length := (mem_keys (Nat.le_refl _)).mpr ⟨m, by rw [List.take_length]; exact g1, rfl⟩
    unfold keysP at this
    obtain ⟨j, hj, ej⟩ := List.mem_map.mp this
    refine ⟨g.filter fun q => decide (keyAt ss L q = keyG (keyAt ss L) g j), ?_, List.mem_filter.mpr ⟨g1, by simp [ej]⟩, List.mem_filter.mpr ⟨g2, by simp [ej, ← hk]⟩⟩
    refine List.mem_flatMap.mpr ⟨g, hg, ?_⟩
    unfold stepG
    refine List.mem_filter.mpr ⟨List.mem_map.mpr ⟨j, hj, part_eq hj⟩, ?_⟩
    exact decide_eq_true (two_mem (m := m) (n := n) (List.mem_filter.mpr ⟨g1, by simp [ej]⟩) (List.mem_filter.mpr ⟨g2, by simp [ej, ← hk]⟩) hne)
/-- no groups are left when each moment is known -/
theorem grp_nil {ss : List Snd} {L : Nat} (hL : 1 ≤ L) : grpL ss L = [] ↔ ∀ m n, m < ss.length → n < ss.length → winE ss L m n → m = n := by
  constructor
  · intro h m n hm hn hw
    by_cases e : m = n
    · exact e
    · obtain ⟨g, hg, _⟩ := grp_of hm hn e L hw
      rw [h] at hg; cases hg
  · intro h
    cases hG : grpL ss L with
    | nil => rfl
    | cons g r =>
      exfalso
      obtain ⟨i1, i2, i3, i4⟩ := grp_in L g (by rw [hG]; exact List.mem_cons_self)
      have hl := i3 hL
      match g, hl, i1, i2, i4 with
      | x :: y :: r, _, i1, i2, i4 =>
        have hx := i2 x (by simp)
        have hy := i2 y (by simp)
        have := h x y hx hy (i4 x (by simp) y (by simp))
        subst this
        simp at i1
/-- the least length that tells the moment -/
def lisO (ss : List Snd) : Option Nat := ((List.range ss.length).map (· + 1)).find? fun L => decide (grpL ss L = [])
def lisD (ss : List Snd) : D := match lisO ss with
  | none => .non
  | some L => .int (L : Nat)
theorem lis_here {ss : List Snd} {i : Nat} (hi : i < ss.length) (h : grpL ss (i + 1) = []) (hb : ∀ L, 1 ≤ L → L ≤ i → grpL ss L ≠ []) : lisD ss = .int ((i + 1 : Nat) : Int) := by
  have e : lisO ss = some (i + 1) := by
    unfold lisO
    have hs : (List.range ss.length).map (· + 1) = (List.range i).map (· + 1) ++ ((i + 1) :: ((List.range ss.length).drop (i + 1)).map (· + 1)) := by
      conv => lhs; rw [← List.take_append_drop i (List.range ss.length)]
      rw [List.map_append, List.drop_eq_getElem_cons (by simpa using hi), List.map_cons, List.getElem_range]
      congr 2
      rw [List.take_range, Nat.min_eq_left (by omega)]
    rw [hs, List.find?_append]
    have : ((List.range i).map (· + 1)).find? (fun L => decide (grpL ss L = [])) = none := List.find?_eq_none.mpr fun L hL => by
      obtain ⟨q, hq, rfl⟩ := List.mem_map.mp hL
      have := List.mem_range.mp hq
      simpa using hb (q + 1) (by omega) (by omega)
    rw [this]
    simp [h]
  unfold lisD; rw [e]
theorem lis_none {ss : List Snd} (hb : ∀ L, 1 ≤ L → L ≤ ss.length → grpL ss L ≠ []) : lisD ss = .non := by
  have e : lisO ss = none := by
    unfold lisO
    refine List.find?_eq_none.mpr fun L hL => ?_
    obtain ⟨q, hq, rfl⟩ := List.mem_map.mp hL
    have := List.mem_range.mp hq
    simpa using hb (q + 1) (by omega) (by omega)
  unfold lisD; rw [e]
/-! ### sizes, data -/
theorem sum_len_filter {key : Nat → Snd} {g : List Nat} : ∀ (ks : List Snd), ks.Nodup → (ks.map fun k => (g.filter fun m => decide (key m = k)).length).sum ≤ g.length := by
  induction g with
  | nil =>
    intro ks _
    induction ks with
    | nil => simp
    | cons k ks ih => simp_all
  | cons m g ih =>
    intro ks hnd
    have h := ih ks hnd
    have e : ∀ ks : List Snd, ks.Nodup → (ks.map fun k => ((m :: g).filter fun q => decide (key q = k)).length).sum ≤ (ks.map fun k => (g.filter fun q => decide (key q = k)).length).sum + 1 := by
      intro ks
      induction ks with
      | nil => intro _; simp
      | cons k ks ihk =>
        intro hn
        rw [List.nodup_cons] at hn
        have := ihk hn.2
        by_cases hk : key m = k
        · have e2 : (ks.map fun k => ((m :: g).filter fun q => decide (key q = k)).length) = ks.map fun k => (g.filter fun q => decide (key q = k)).length := List.map_congr_left fun k2 h2 => by
            have : ¬ key m = k2 := fun z => hn.1 (by rw [← hk, z]; exact h2)
            simp [List.filter_cons, this]
          simp only [List.map_cons, List.sum_cons]
          rw [e2]
          simp only [List.filter_cons, hk, decide_true, if_true, List.length_cons]
          omega
        · simp only [List.map_cons, List.sum_cons]
          simp only [List.filter_cons, hk, decide_false, Bool.false_eq_true, if_false]
          simp only [List.filter_cons] at this
          omega
    have := e ks hnd
    rw [List.length_cons]
    omega
theorem step_len (key : Nat → Snd) (g : List Nat) : ((stepG key g).map List.length).sum ≤ g.length := by
  have h1 : ((ixP key g g.length).map fun j => ((cellsP key g g.length).getD j []).length).sum ≤ g.length := by
    have e : ((ixP key g g.length).map fun j => ((cellsP key g g.length).getD j []).length) = (keysP key g g.length).map fun k => (g.filter fun m => decide (key m = k)).length := by
      unfold keysP
      rw [List.map_map]
      exact List.map_congr_left fun j hj => by rw [part_eq hj]; rfl
    rw [e]
    exact sum_len_filter _ (keys_nd (Nat.le_refl _))
  unfold stepG
  refine Nat.le_trans ?_ h1
  generalize ixP key g g.length = ix
  induction ix with
  | nil => simp
  | cons j ix ih =>
    simp only [List.map_cons, List.sum_cons, List.filter_cons]
    split
    · simp only [List.map_cons, List.sum_cons]; omega
    · omega
theorem grp_len (ss : List Snd) : ∀ L, ((grpL ss L).map List.length).sum ≤ ss.length
  | 0 => by simp [grpL]
  | L + 1 => by
    refine Nat.le_trans ?_ (grp_len ss L)
    show (((grpL ss L).flatMap (stepG (keyAt ss L))).map List.length).sum ≤ _
    generalize grpL ss L = G
    induction G with
    | nil => simp
    | cons g G ih =>
      rw [List.flatMap_cons, List.map_append, List.sum_append, List.map_cons, List.sum_cons]
      have := step_len (keyAt ss L) g
      omega
def grpsD (G : List (List Nat)) : List D := G.map fun g => .lst (natsD g)
end WL
/-! What was heard, any values; the cells of the groups. -/
namespace WL
open PySem PySem.Spec PyProof.Rows L2
/-- a value that was heard -/
inductive HV where | snd (s : Snd) | non | nil | low | lowT
def HV.d : HV → D
  | .snd s => sndD s
  | .non => .non
  | .nil => .lst []
  | .low => .str "low"
  | .lowT => .tup [.tup [.str "low", .bl true]]
def HV.same (v : HV) (b : Snd) : Bool := match v with
  | .snd s => decide (s = b)
  | _ => false
def HV.ok : HV → Prop
  | .snd s => s.length ≤ 100
  | _ => True
def begHU (s : List Snd) (h : List HV) (i : Nat) : List Nat := (List.range s.length).filter fun m => (List.range i).all fun t => (h.getD t .non).same (s.getD ((m + t) % s.length) [])
def begH (s : List Snd) (h : List HV) : List Nat := begHU s h h.length
theorem begH_0 (s : List Snd) (h : List HV) : begHU s h 0 = List.range s.length := by unfold begHU; simp
theorem begH_s (s : List Snd) (h : List HV) (i : Nat) : begHU s h (i + 1) = (begHU s h i).filter fun m => (h.getD i .non).same (s.getD ((m + i) % s.length) []) := by
  unfold begHU
  rw [List.filter_filter]
  refine List.filter_congr fun m _ => ?_
  rw [List.range_succ, List.all_append, Bool.and_comm]; simp
theorem begH_len (s : List Snd) (h : List HV) (i : Nat) : (begHU s h i).length ≤ s.length := Nat.le_trans (List.length_filter_le _ _) (by simp)
def lotD (k : Bool) (l : List D) : D := if k then .lst l else .tup l
/-! ### cells -/
def lstC (l : List Nat) : Cell := .lst (natsD l)
section
variable {B : List Cell} {nd nd' : Cell} {Ls : List (List Nat)} {R : List Cell}
theorem nd_at : (B ++ [nd] ++ R)[B.length]? = some nd := by simp
theorem nd_set : (B ++ [nd] ++ R).set B.length nd' = B ++ [nd'] ++ R := by simp
theorem lst_at {q : Nat} (hq : q < Ls.length) : (B ++ [nd] ++ Ls.map lstC)[B.length + 1 + q]? = some (lstC (Ls.getD q [])) := by
  rw [List.getElem?_append_right (by simp)]
  have : B.length + 1 + q - (B ++ [nd]).length = q := by simp
  rw [this, List.getElem?_map, List.getD_eq_getElem?_getD, List.getElem?_eq_getElem hq]; rfl
theorem lst_set {q : Nat} {l : List Nat} : (B ++ [nd] ++ Ls.map lstC).set (B.length + 1 + q) (lstC l) = B ++ [nd] ++ (Ls.set q l).map lstC := by
  rw [List.set_append_right _ _ (by simp)]
  have : B.length + 1 + q - (B ++ [nd]).length = q := by simp
  rw [this, List.map_set]
theorem lst_more {l : List Nat} : B ++ [nd] ++ Ls.map lstC ++ [lstC l] = B ++ [nd] ++ (Ls ++ [l]).map lstC := by
  rw [List.map_append, List.append_assoc]; rfl
theorem lst_mlen : (B ++ [nd] ++ Ls.map lstC).length = B.length + 1 + Ls.length := by simp; omega
end
theorem natsD_snoc (l : List Nat) (m : Nat) : natsD l ++ [.int (m : Int)] = natsD (l ++ [m]) := by unfold natsD; rw [List.map_append]; rfl
theorem natsD_len (l : List Nat) : (natsD l).length = l.length := by unfold natsD; rw [List.length_map]
/-- the sound by which a moment is put -/
theorem key_at {ss : List Snd} {m i : Nat} (hp : 0 < ss.length) : L2.atI (ss.map sndD) (((m : Int) + (1 + (i : Int)) - 1) % ((ss.map sndD).length : Int)) = some (sndD (keyAt ss i m)) := by
  have hk : (m + i) % ss.length < ss.length := Nat.mod_lt _ hp
  rw [List.length_map, show ((m : Int) + (1 + (i : Int)) - 1) % ((ss.length : Nat) : Int) = (((m + i) % ss.length : Nat) : Int) by
    rw [Int.natCast_emod, Int.natCast_add]; congr 1; omega]
  refine L2.atI_nat ?_
  unfold keyAt
  rw [List.getElem?_map, List.getD_eq_getElem?_getD, List.getElem?_eq_getElem hk]; rfl
theorem keys_sk {key : Nat → Snd} {g : List Nat} {i : Nat} (hi : i ≤ g.length) : ((keysP key g i).map skS).Nodup := List.pairwise_map.mpr ((keys_nd hi).imp fun hne e => hne (skS_inj e))
theorem keysP_len {key : Nat → Snd} {g : List Nat} {i : Nat} : (keysP key g i).length ≤ i := by
  unfold keysP ixP
  rw [List.length_map]
  exact Nat.le_trans (List.length_filter_le _ _) (by simp)
/-- what is left of a group's parts, as data -/
def partP : D → Bool
  | .lst l => decide (1 < (l.length : Int))
  | _ => false
theorem partP_nats (p : List Nat) : partP (.lst (natsD p)) = decide (1 < p.length) := by
  show decide (1 < ((natsD p).length : Int)) = _
  rw [natsD_len]
  apply decide_eq_decide.mpr; omega
theorem parts_D (key : Nat → Snd) (g : List Nat) : (((ixP key g g.length).map fun j => ((cellsP key g g.length).map natsD).getD j []).map D.lst).filter partP = grpsD (stepG key g) := by
  unfold grpsD stepG
  generalize ixP key g g.length = ix
  induction ix with
  | nil => rfl
  | cons j ix ih =>
    have e : ((cellsP key g g.length).map natsD).getD j [] = natsD ((cellsP key g g.length).getD j []) := by
      rw [List.getD_eq_getElem?_getD, List.getD_eq_getElem?_getD, List.getElem?_map]
      cases (cellsP key g g.length)[j]? <;> rfl
    simp only [List.map_cons]
    by_cases h : 1 < ((cellsP key g g.length).getD j []).length
    · rw [List.filter_cons_of_pos (by rw [e, partP_nats]; exact decide_eq_true h), List.filter_cons_of_pos (p := fun p : List Nat => decide (1 < p.length)) (decide_eq_true h), List.map_cons, ih, e]
    · rw [List.filter_cons_of_neg (by rw [e, partP_nats]; simpa using h), List.filter_cons_of_neg (p := fun p : List Nat => decide (1 < p.length)) (by simpa using h), ih]
theorem deq_grps (G : List (List Nat)) : deq (.lst (grpsD G)) (.lst []) = decide (G = []) := by
  cases G <;> simp [grpsD, deq, deqs]
theorem flat_ts {α β : Type} {f : α → List β} {l : List α} {i : Nat} {x : α} (h : l[i]? = some x) : (l.take (i + 1)).flatMap f = (l.take i).flatMap f ++ f x := by
  rw [take_succ_get h, List.flatMap_append]; simp
theorem step_cnt (key : Nat → Snd) (g : List Nat) : (stepG key g).length ≤ g.length := by
  refine Nat.le_trans ?_ (step_len key g)
  have : ∀ p ∈ stepG key g, 1 ≤ p.length := fun p hp => by
    unfold stepG at hp
    have := of_decide_eq_true (List.mem_filter.mp hp).2
    omega
  generalize stepG key g = G at this
  induction G with
  | nil => simp
  | cons p G ih =>
    have h1 := this p List.mem_cons_self
    have h2 := ih fun q hq => this q (List.mem_cons_of_mem _ hq)
    rw [List.length_cons, List.map_cons, List.sum_cons]; omega
theorem flat_cnt (key : Nat → Snd) : ∀ G : List (List Nat), (G.flatMap (stepG key)).length ≤ (G.map List.length).sum
  | [] => by simp
  | g :: G => by
    have := step_cnt key g
    have := flat_cnt key G
    rw [List.flatMap_cons, List.length_append, List.map_cons, List.sum_cons]; omega
theorem take_sum : ∀ (G : List (List Nat)) (j : Nat), ((G.take j).map List.length).sum ≤ (G.map List.length).sum
  | [], j => by simp
  | g :: G, 0 => by simp
  | g :: G, j + 1 => by
    have := take_sum G j
    rw [List.take_succ_cons, List.map_cons, List.map_cons, List.sum_cons, List.sum_cons]; omega
theorem pre_cnt (ss : List Snd) (i j : Nat) (key : Nat → Snd) : (((grpL ss i).take j).flatMap (stepG key)).length ≤ ss.length :=
  Nat.le_trans (flat_cnt key _) (Nat.le_trans (take_sum _ _) (grp_len ss i))
theorem grp_one {ss : List Snd} {i : Nat} {g : List Nat} (hg : g ∈ grpL ss i) : g.length ≤ ss.length := by
  refine Nat.le_trans ?_ (grp_len ss i)
  generalize grpL ss i = G at hg
  induction G with
  | nil => cases hg
  | cons p G ih =>
    rw [List.map_cons, List.sum_cons]
    rcases List.mem_cons.mp hg with rfl | hg
    · omega
    · have := ih hg; omega
theorem grpsD_app (G H : List (List Nat)) : grpsD G ++ grpsD H = grpsD (G ++ H) := by unfold grpsD; rw [List.map_append]
theorem grpsD_len (G : List (List Nat)) : (grpsD G).length = G.length := by unfold grpsD; rw [List.length_map]
theorem pl_grps {G : List (List Nat)} (h1 : G.length ≤ 1000) (h2 : ∀ g ∈ G, g.length ≤ 1000) : Pl 4 (.lst (grpsD G)) := ⟨by rw [grpsD_len]; exact h1, fun x hx => by
  obtain ⟨g, hg, rfl⟩ := List.mem_map.mp hx
  exact Pl.mono (pl_nats (h2 g hg)) (by decide)⟩
theorem nats_skS {key : Nat → Snd} {g : List Nat} {i t : Nat} {m : Nat} (h : ((keysP key g i).map skS)[t]? = some (skS (key m))) : (keysP key g i)[t]? = some (key m) := by
  rw [List.getElem?_map] at h
  obtain ⟨s, hs, e⟩ := Option.map_eq_some_iff.mp h
  rw [hs, skS_inj e]
theorem not_skS {key : Nat → Snd} {g : List Nat} {i m : Nat} (h : skS (key m) ∉ (keysP key g i).map skS) : key m ∉ keysP key g i := fun z => h (List.mem_map_of_mem z)
theorem part_len {key : Nat → Snd} {g : List Nat} {L : List D} {q : Nat} (h : ((ixP key g g.length).map fun j => ((cellsP key g g.length).map natsD).getD j [])[q]? = some L) : L.length ≤ g.length := by
  rw [List.getElem?_map] at h
  obtain ⟨j, hj, rfl⟩ := Option.map_eq_some_iff.mp h
  have hjm := List.mem_of_getElem? hj
  have e : ((cellsP key g g.length).map natsD).getD j [] = natsD ((cellsP key g g.length).getD j []) := by
    rw [List.getD_eq_getElem?_getD, List.getD_eq_getElem?_getD, List.getElem?_map]
    cases (cellsP key g g.length)[j]? <;> rfl
  rw [e, natsD_len, part_eq hjm]
  exact List.length_filter_le _ _
end WL
/-! Rules as words, clocks as texts. -/
namespace WL
open PySem PySem.Spec PyProof.Rows L2
def numS (n : Int) : Str := Str.ofString (toString n)
def Tk.ws (x : Str) : Tk → List Str
  | .all => ["all"]
  | .one n => [x, numS n]
  | .but n => ["but", numS n]
def Of.w : Of → Str
  | .times n => numS n
  | .hours => "hours"
  | .parts => "parts"
def Ru.ws (r : Ru) : List Str := r.h.ws "hour" ++ r.p.ws "part" ++ [bellS r.low, r.o.w]
def Ru.line (r : Ru) : Str := Txt.join " " r.ws
def Ru.row (r : Ru) : Str := r.line ++ "\n"
/-! ### and back -/
/-! ### as data -/
theorem pl_rus {l : List Ru} (h : l.length ≤ 1000) : Pl 5 (rusD l) := ⟨by rw [List.length_map]; exact h, fun x hx => by
  obtain ⟨r, _, rfl⟩ := List.mem_map.mp hx
  exact pl_ru r⟩
theorem clo_appG {c d : List Cell} (h : clo c.length c = true) (hd : ∀ k ∈ d, ∀ n, Cell.below n k = true) : clo (c ++ d).length (c ++ d) = true := by
  have e : clo c.length c = c.all (Cell.below c.length) := by unfold clo; rw [List.take_length]
  unfold clo
  rw [List.take_length, List.all_append, Bool.and_eq_true]
  rw [e] at h
  refine ⟨List.all_eq_true.mpr fun k hk => ?_, List.all_eq_true.mpr fun k hk => hd k hk _⟩
  have q := List.all_eq_true.mp h k hk
  cases k with
  | lst l => rfl
  | dic ks l => rfl
  | xo R => rfl
  | xw R ws =>
    have q : ws.all (W.below c.length) = true := q
    show ws.all (W.below _) = true
    refine List.all_eq_true.mpr fun w hw => ?_
    have q2 := List.all_eq_true.mp q w hw
    cases w with
    | im d => rfl
    | ce n =>
      have q3 : n < c.length := of_decide_eq_true q2
      exact decide_eq_true (show n < (c ++ d).length by rw [List.length_append]; omega)
  | ins C ns ws =>
    have q : ws.all (W.below c.length) = true := q
    show ws.all (W.below _) = true
    refine List.all_eq_true.mpr fun w hw => ?_
    have q2 := List.all_eq_true.mp q w hw
    cases w with
    | im d => rfl
    | ce n =>
      have q3 : n < c.length := of_decide_eq_true q2
      exact decide_eq_true (show n < (c ++ d).length by rw [List.length_append]; omega)
end WL
/-! The first land in which two clocks meet, and the first one in which they don't, as found on the way. -/
namespace WL
open PySem PySem.Spec PyProof.Rows L2
def togD (o : Option (Int × Int)) : D := match o with
  | none => .non
  | some x => prD x
theorem tog_snoc {xs : List (Int × Int)} {y : Int × Int} {l m : List Ru} {k : Bool} : togL (xs ++ [y]) l m k = (togL xs l m k).or (if meetB l m y.1 y.2 = k then some y else none) := by
  unfold togL
  rw [List.findSome?_append]
  congr 1
  rw [List.findSome?_cons, List.findSome?_nil]
  by_cases e : meetB l m y.1 y.2 = k
  · rw [if_pos e]
  · rw [if_neg e]
structure TogTo (l m : List Ru) (n : Nat) (ds : List (Bool × D)) : Prop where
  len : ds.length ≤ n
  at_ : ∀ k, ds.lookup k = (togL ((landsL 10).take n) l m k).map prD
theorem tog_zero {l m : List Ru} : TogTo l m 0 [] := ⟨Nat.le_refl _, fun k => rfl⟩
theorem take_one {α : Type} {xs : List α} {i : Nat} {y : α} (h : xs[i]? = some y) : xs.take (i + 1) = xs.take i ++ [y] := by rw [List.take_add_one, h]; rfl
theorem tog_old {l m : List Ru} {i : Nat} {ds : List (Bool × D)} {y : Int × Int} {d : D} (h : TogTo l m i ds) (hy : (landsL 10)[i]? = some y) (hk : ds.lookup (meetB l m y.1 y.2) = some d) : TogTo l m (i + 1) ds := by
  refine ⟨Nat.le_succ_of_le h.len, fun k => ?_⟩
  rw [take_one hy, tog_snoc, h.at_ k]
  have q := h.at_ (meetB l m y.1 y.2)
  rw [hk] at q
  by_cases e : meetB l m y.1 y.2 = k
  · subst e
    cases z : togL ((landsL 10).take i) l m (meetB l m y.1 y.2) with
    | none => rw [z] at q; cases q
    | some v => rfl
  · rw [if_neg e]
    cases togL ((landsL 10).take i) l m k <;> rfl
theorem tog_new {l m : List Ru} {i : Nat} {ds : List (Bool × D)} {y : Int × Int} (h : TogTo l m i ds) (hy : (landsL 10)[i]? = some y) (hk : ds.lookup (meetB l m y.1 y.2) = none) : TogTo l m (i + 1) (ds ++ [(meetB l m y.1 y.2, prD y)]) := by
  refine ⟨by rw [List.length_append, List.length_singleton]; exact Nat.succ_le_succ h.len, fun k => ?_⟩
  rw [take_one hy, tog_snoc, List.lookup_append, h.at_ k]
  by_cases e : meetB l m y.1 y.2 = k
  · subst e
    have q := h.at_ (meetB l m y.1 y.2)
    rw [hk] at q
    cases z : togL ((landsL 10).take i) l m (meetB l m y.1 y.2) with
    | some v => rw [z] at q; cases q
    | none => simp [List.lookup]
  · rw [if_neg e]
    have e2 : (k == meetB l m y.1 y.2) = false := by simpa using fun z => e z.symm
    cases togL ((landsL 10).take i) l m k <;> simp [List.lookup, e2]
theorem tog_end {l m : List Ru} {n : Nat} {ds : List (Bool × D)} (h : TogTo l m n ds) (hn : n = (landsL 10).length) (k : Bool) : (ds.lookup k).getD .non = togD (togL (landsL 10) l m k) := by
  rw [h.at_ k, hn, List.take_length]
  cases togL (landsL 10) l m k <;> rfl
theorem deq_snil {l : List Ru} {a b h p : Int} : deq (soundsD l a b h p) (.tup []) = decide (soundsL l a b h p = []) := by
  unfold soundsD
  cases soundsL l a b h p with
  | nil => simp [deq, deqs]
  | cons x r => simp [deq, deqs]
/-- both sound, moment by moment -/
def meetsL (l m : List Ru) (a b : Int) : List Bool := (List.range (a * b).toNat).map fun (x : Nat) => !decide (soundsL l a b ((x : Int) / b) ((x : Int) % b) = []) && !decide (soundsL m a b ((x : Int) / b) ((x : Int) % b) = [])
theorem meetsL_any {l m : List Ru} {a b : Int} : (meetsL l m a b).any id = meetB l m a b := by
  unfold meetsL meetB
  rw [List.any_map]; rfl
theorem meetsL_get {l m : List Ru} {a b : Int} {i : Nat} (h : i < (a * b).toNat) : (meetsL l m a b)[i]? = some (!decide (soundsL l a b ((i : Int) / b) ((i : Int) % b) = []) && !decide (soundsL m a b ((i : Int) / b) ((i : Int) % b) = [])) := by
  unfold meetsL
  rw [List.getElem?_map, List.getElem?_range h]; rfl
theorem meetsL_len {l m : List Ru} {a b : Int} : (meetsL l m a b).length = (a * b).toNat := by unfold meetsL; simp
end WL
/-! The form of a clock: twice the strokes of a day, in h and q. -/
namespace WL
open PySem PySem.Spec PyProof.Rows L2
abbrev P3 := Int × Int × Int
def P3.l (p : P3) : List Int := [p.1, p.2.1, p.2.2]
def P3.at_ (p : P3) (i : Nat) : Int := match i with
  | 0 => p.1
  | 1 => p.2.1
  | _ => p.2.2
/-! ### for the walk -/
end WL
/-! A form's numbers are small. -/
/-! What holds in all lands. -/
namespace WL
open PySem PySem.Spec PyProof.Rows L2
section
variable {l m : List Ru} {a b : Int}
theorem same_not (hl : ∀ r ∈ l, r.ok) (hm : ∀ r ∈ m, r.ok) (h : sameB 10 l m = true) (ha : 2 ≤ a) (hb : 2 ≤ b) : ¬ Unlike l m a b := by
  have h2 : unlL (landsL 10) l m = none := Option.isNone_iff_eq_none.mp h
  have h3 := (unl_none fun x hx => ⟨(lands_10b x hx).1, (lands_10b x hx).2.2.1⟩).mp h2
  exact alike_all hl hm (fun a b a1 a2 b1 b2 => h3 (a, b) (lands_in10 a1 a2 b1 b2)) ha hb
theorem same_sound (hl : ∀ r ∈ l, r.ok) (hm : ∀ r ∈ m, r.ok) (h : sameB 10 l m = true) (ha : 2 ≤ a) (hb : 2 ≤ b) {q p : Int} (q0 : 0 ≤ q) (q1 : q < a) (p0 : 0 ≤ p) (p1 : p < b) : soundsL l a b q p = soundsL m a b q p := by
  by_cases e : soundsL l a b q p = soundsL m a b q p
  · exact e
  · exact absurd ⟨q, p, q0, q1, p0, p1, e⟩ (same_not hl hm h ha hb)
theorem day_mom (t : Int) (ha : 2 ≤ a) (hb : 2 ≤ b) : 0 ≤ t / b % a ∧ t / b % a < a ∧ 0 ≤ t % b ∧ t % b < b := ⟨Int.emod_nonneg _ (by omega), Int.emod_lt_of_pos _ (by omega), Int.emod_nonneg _ (by omega), Int.emod_lt_of_pos _ (by omega)⟩
theorem same_mom (hl : ∀ r ∈ l, r.ok) (hm : ∀ r ∈ m, r.ok) (h : sameB 10 l m = true) (ha : 2 ≤ a) (hb : 2 ≤ b) (t : Int) : soundsL l a b (t / b % a) (t % b) = soundsL m a b (t / b % a) (t % b) :=
  let ⟨q0, q1, p0, p1⟩ := day_mom t ha hb
  same_sound hl hm h ha hb q0 q1 p0 p1
theorem same_str (hl : ∀ r ∈ l, r.ok) (hm : ∀ r ∈ m, r.ok) (h : sameB 10 l m = true) (ha : 2 ≤ a) (hb : 2 ≤ b) : strL l a b = strL m a b := by
  rw [str_day hl ha hb, str_day hm ha hb]
  unfold dayN dayS
  rw [List.map_map, List.map_map]
  refine congrArg List.sum (List.map_congr_left fun x hx => ?_)
  have hx := List.mem_range.mp hx
  obtain ⟨q0, q1, p0, p1⟩ := in_day ha hb hx
  exact congrArg sndN (same_sound hl hm h ha hb q0 q1 p0 p1)
theorem never_meet (hl : ∀ r ∈ l, r.ok) (hm : ∀ r ∈ m, r.ok) (h : togL (landsL 10) l m true = none) (ha : 2 ≤ a) (hb : 2 ≤ b) (t : Int) : soundsL l a b (t / b % a) (t % b) = [] ∨ soundsL m a b (t / b % a) (t % b) = [] := by
  have h2 : ∀ x ∈ landsL 10, meetB l m x.1 x.2 = false := fun x hx => by
    have := List.findSome?_eq_none_iff.mp h x hx
    cases e : meetB l m x.1 x.2 with
    | false => rfl
    | true => rw [e] at this; simp at this
  have h3 := meets_all hl hm h2 ha hb
  obtain ⟨q0, q1, p0, p1⟩ := day_mom t ha hb
  by_cases e1 : soundsL l a b (t / b % a) (t % b) = []
  · exact .inl e1
  · by_cases e2 : soundsL m a b (t / b % a) (t % b) = []
    · exact .inr e2
    · exact absurd ⟨_, _, q0, q1, p0, p1, e1, e2⟩ h3
end
/-! ### rules that never matter -/
def alwR (lo : Bool) : Ru := ⟨.all, .all, lo, .times 2⟩
theorem alw_ok (lo : Bool) : (alwR lo).ok := ⟨trivial, trivial, by show (1 : Int) ≤ 2 ∧ (2 : Int) ≤ 3; decide⟩
theorem same_of {l m : List Ru} (h : ∀ a b q p, soundsL l a b q p = soundsL m a b q p) : sameB 10 l m = true := by
  unfold sameB
  rw [Option.isNone_iff_eq_none]
  exact (unl_none fun x hx => ⟨(lands_10b x hx).1, (lands_10b x hx).2.2.1⟩).mpr fun x _ ⟨q, p, _, _, _, _, e⟩ => e (h _ _ _ _)
theorem alw_idle (r : Ru) : 1 ∈ needL [alwR r.low, r] := by
  refine List.mem_filter.mpr ⟨List.mem_range.mpr (by simp), ?_⟩
  have e : dropAt [alwR r.low, r] 1 = [alwR r.low] := rfl
  rw [e]
  refine same_of fun a b q p => sounds_eq.mpr fun lo => ?_
  unfold tellO
  congr 1
  unfold firstO
  by_cases hlo : r.low = lo
  · have h1 : (decide ((alwR r.low).low = lo) && (alwR r.low).fit a b q p) = true := by
      simp [alwR, hlo, Ru.fit, Tk.has]
    simp [List.find?_cons, h1]
  · have h1 : (decide ((alwR r.low).low = lo) && (alwR r.low).fit a b q p) = false := by simp [alwR, hlo]
    have h2 : (decide (r.low = lo) && r.fit a b q p) = false := by simp [hlo]
    simp [List.find?_cons, h1, h2]
theorem swap_self (r : Ru) : 0 ∈ swapsL [r, r] := by
  refine List.mem_filter.mpr ⟨List.mem_range.mpr (by simp), ?_⟩
  have e : swapAt [r, r] 0 = [r, r] := rfl
  rw [e]
  exact same_of fun _ _ _ _ => rfl
/-! ### a day heard in its own land -/
section
variable {ss : List Snd}
theorem hv_at {h : List Snd} {t : Nat} (ht : t < h.length) : (h.map HV.snd).getD t .non = .snd (h.getD t []) := by
  rw [List.getD_eq_getElem?_getD, List.getD_eq_getElem?_getD, List.getElem?_map, List.getElem?_eq_getElem ht]; rfl
theorem beg_mem {h : List Snd} {m : Nat} : m ∈ begH ss (h.map HV.snd) ↔ m < ss.length ∧ ∀ t, t < h.length → h.getD t [] = ss.getD ((m + t) % ss.length) [] := by
  unfold begH begHU
  rw [List.mem_filter, List.mem_range, List.length_map]
  refine and_congr_right fun _ => ?_
  rw [List.all_eq_true]
  constructor
  · intro q t ht
    have := q t (List.mem_range.mpr ht)
    rw [hv_at ht] at this
    exact of_decide_eq_true this
  · intro q t ht
    have ht := List.mem_range.mp ht
    rw [hv_at ht]
    exact decide_eq_true (q t ht)
theorem beg_twice (hp : 0 < ss.length) : 0 ∈ begH ss ((ss ++ ss).map HV.snd) := beg_mem.mpr ⟨hp, fun t ht => by
  rw [List.length_append] at ht
  rw [Nat.zero_add]
  by_cases h : t < ss.length
  · rw [Nat.mod_eq_of_lt h, List.getD_eq_getElem?_getD, List.getD_eq_getElem?_getD, List.getElem?_append_left h]
  · rw [List.getD_eq_getElem?_getD, List.getD_eq_getElem?_getD, List.getElem?_append_right (by omega), show t % ss.length = t - ss.length by rw [Nat.mod_eq_sub_mod (by omega), Nat.mod_eq_of_lt (by omega)]]⟩
theorem beg_zero (hp : 0 < ss.length) : 0 ∈ begH ss (ss.map HV.snd) := beg_mem.mpr ⟨hp, fun t ht => by rw [Nat.zero_add, Nat.mod_eq_of_lt ht]⟩
theorem only_zero {p : Nat → Bool} : ∀ {n : Nat}, 0 < n → p 0 = true → (∀ m, m < n → p m = true → m = 0) → (List.range n).filter p = [0]
  | n + 1, _, h0, h => by
    rw [List.range_succ_eq_map, List.filter_cons_of_pos h0, List.filter_map]
    have : (List.range n).filter (p ∘ Nat.succ) = [] := List.filter_eq_nil_iff.mpr fun m hm e => by
      have := h (m + 1) (by have := List.mem_range.mp hm; omega) e
      omega
    rw [this]; rfl
theorem beg_some (hp : 0 < ss.length) {L : Nat} (h : lisO ss = some L) : begH ss (ss.map HV.snd) = [0] := by
  unfold lisO at h
  have hm := List.mem_of_find?_eq_some h
  have hG : grpL ss L = [] := by
    have := List.find?_some h
    simpa using this
  obtain ⟨q, hq, rfl⟩ := List.mem_map.mp hm
  have hq := List.mem_range.mp hq
  have hw := (grp_nil (by omega)).mp hG
  have h0 := (List.mem_filter.mp (beg_zero hp)).2
  unfold begH begHU
  refine only_zero hp h0 fun m hml hpm => ?_
  have hmb : m ∈ begH ss (ss.map HV.snd) := List.mem_filter.mpr ⟨List.mem_range.mpr hml, hpm⟩
  obtain ⟨_, hall⟩ := beg_mem.mp hmb
  exact (hw 0 m hp hml fun k hk => by
    unfold keyAt
    rw [Nat.zero_add, Nat.mod_eq_of_lt (by omega)]
    exact hall k (by omega)).symm
theorem beg_none (hp : 0 < ss.length) (h : lisO ss = none) : 1 < (begH ss (ss.map HV.snd)).length := by
  have hG : grpL ss ss.length ≠ [] := by
    unfold lisO at h
    have := List.find?_eq_none.mp h ss.length (List.mem_map.mpr ⟨ss.length - 1, List.mem_range.mpr (by omega), by omega⟩)
    simpa using this
  have hex : ∃ m n, m < ss.length ∧ n < ss.length ∧ winE ss ss.length m n ∧ m < n := by
    refine Classical.byContradiction fun hno => hG ((grp_nil (by omega)).mpr fun m n hm hn hw => ?_)
    rcases Nat.lt_trichotomy m n with hlt | he | hlt
    · exact absurd ⟨m, n, hm, hn, hw, hlt⟩ hno
    · exact he
    · exact absurd ⟨n, m, hn, hm, fun k hk => (hw k hk).symm, hlt⟩ hno
  obtain ⟨m, n, hm, hn, hw, hlt⟩ := hex
  refine two_mem (m := 0) (n := n - m) (beg_zero hp) (beg_mem.mpr ⟨by omega, fun t ht => ?_⟩) (by omega)
  have hk := hw ((t + ss.length - m) % ss.length) (Nat.mod_lt _ hp)
  unfold keyAt at hk
  have e1 : (m + (t + ss.length - m) % ss.length) % ss.length = t := by
    rw [Nat.add_mod_mod, show m + (t + ss.length - m) = t + ss.length by omega, Nat.add_mod_right, Nat.mod_eq_of_lt ht]
  have e2 : (n + (t + ss.length - m) % ss.length) % ss.length = (n - m + t) % ss.length := by
    rw [Nat.add_mod_mod, show n + (t + ss.length - m) = (n - m + t) + ss.length by omega, Nat.add_mod_right]
  rw [e1, e2] at hk
  exact hk
theorem lis_isN : (lisD ss).isN = (lisO ss).isNone := by
  unfold lisD
  cases lisO ss <;> rfl
end
theorem tog_isN (l m : List Ru) : (togD (togL (landsL 10) l m true)).isN = (togL (landsL 10) l m true).isNone := by
  cases togL (landsL 10) l m true <;> rfl
theorem in_nats {k : Nat} {l : List Nat} (h : k ∈ l) : inD (.int (k : Int)) (natsD l) = true := List.any_eq_true.mpr ⟨.int (k : Int), List.mem_map_of_mem (f := fun (k : Nat) => D.int (k : Int)) h, by simp [deq]⟩
theorem flat_nats (l : List Nat) : (natsD l).all D.flat = true := List.all_eq_true.mpr fun x hx => by
  obtain ⟨k, _, rfl⟩ := List.mem_map.mp hx
  rfl
theorem nats_mem {l : List Nat} {i : Nat} {d : D} (h : (natsD l)[i]? = some d) : ∃ k, k ∈ l ∧ d = .int (k : Int) := by
  obtain ⟨k, hk, rfl⟩ := List.mem_map.mp (List.mem_of_getElem? h)
  exact ⟨k, hk, rfl⟩
theorem day_hv (ss : List Snd) : ss.map sndD = (ss.map HV.snd).map HV.d := by rw [List.map_map]; rfl
end WL
namespace WL
open PySem PySem.Spec PyProof.Rows L2
def top (i : Nat) : Stmt := PySem.Challenge.pw_hourbells_k12_things_that_hold.main.body.getD i (.Pass ⟨0, 0, 0, 0⟩)
abbrev s_is_from : Stmt := top 10
abbrev N_is_from : List Str := [("value" : Str), ("least" : Str), ("most" : Str)]
abbrev P_is_from : List Str := [("value" : Str), ("least" : Str), ("most" : Str)]
theorem sc_is_from : FnScope N_is_from P_is_from (defScope s_is_from) := ⟨rfl, rfl, rfl, by decide +kernel, rfl, by decide +kernel, by decide +kernel⟩
abbrev s_need_land : Stmt := top 11
abbrev N_need_land : List Str := [("value" : Str), ("many" : Str)]
abbrev P_need_land : List Str := [("value" : Str)]
theorem sc_need_land : FnScope N_need_land P_need_land (defScope s_need_land) := ⟨rfl, rfl, rfl, by decide +kernel, rfl, by decide +kernel, by decide +kernel⟩
abbrev s_need_small : Stmt := top 12
abbrev N_need_small : List Str := [("value" : Str)]
abbrev P_need_small : List Str := [("value" : Str)]
theorem sc_need_small : FnScope N_need_small P_need_small (defScope s_need_small) := ⟨rfl, rfl, rfl, by decide +kernel, rfl, by decide +kernel, by decide +kernel⟩
abbrev s_need_moment : Stmt := top 13
abbrev N_need_moment : List Str := [("value" : Str)]
abbrev P_need_moment : List Str := [("value" : Str)]
theorem sc_need_moment : FnScope N_need_moment P_need_moment (defScope s_need_moment) := ⟨rfl, rfl, rfl, by decide +kernel, rfl, by decide +kernel, by decide +kernel⟩
abbrev s_takes : Stmt := top 14
abbrev N_takes : List Str := [("taking" : Str), ("place" : Str), ("many" : Str)]
abbrev P_takes : List Str := [("taking" : Str), ("place" : Str), ("many" : Str)]
theorem sc_takes : FnScope N_takes P_takes (defScope s_takes) := ⟨rfl, rfl, rfl, by decide +kernel, rfl, by decide +kernel, by decide +kernel⟩
abbrev s_struck : Stmt := top 15
abbrev N_struck : List Str := [("rows" : Str), ("land" : Str), ("hour" : Str), ("part" : Str), ("found" : Str), ("hours" : Str), ("parts" : Str), ("bell" : Str), ("often" : Str)]
abbrev P_struck : List Str := [("rows" : Str), ("land" : Str), ("hour" : Str), ("part" : Str)]
theorem sc_struck : FnScope N_struck P_struck (defScope s_struck) := ⟨rfl, rfl, rfl, by decide +kernel, rfl, by decide +kernel, by decide +kernel⟩
abbrev s_sound_at : Stmt := top 16
abbrev N_sound_at : List Str := [("rows" : Str), ("land" : Str), ("moment" : Str), ("hour" : Str), ("part" : Str), ("told" : Str), ("bell" : Str)]
abbrev P_sound_at : List Str := [("rows" : Str), ("land" : Str), ("moment" : Str)]
theorem sc_sound_at : FnScope N_sound_at P_sound_at (defScope s_sound_at) := ⟨rfl, rfl, rfl, by decide +kernel, rfl, by decide +kernel, by decide +kernel⟩
abbrev s_number_of : Stmt := top 17
abbrev N_number_of : List Str := [("often" : Str), ("hour" : Str), ("part" : Str)]
abbrev P_number_of : List Str := [("often" : Str), ("hour" : Str), ("part" : Str)]
theorem sc_number_of : FnScope N_number_of P_number_of (defScope s_number_of) := ⟨rfl, rfl, rfl, by decide +kernel, rfl, by decide +kernel, by decide +kernel⟩
abbrev s_sounds_of : Stmt := top 18
abbrev N_sounds_of : List Str := [("rows" : Str), ("land" : Str), ("moment" : Str)]
abbrev P_sounds_of : List Str := [("rows" : Str), ("land" : Str)]
theorem sc_sounds_of : FnScope N_sounds_of P_sounds_of (defScope s_sounds_of) := ⟨rfl, rfl, rfl, by decide +kernel, rfl, by decide +kernel, by decide +kernel⟩
abbrev s_sound : Stmt := top 19
abbrev N_sound : List Str := [("clock" : Str), ("land" : Str), ("moment" : Str)]
abbrev P_sound : List Str := [("clock" : Str), ("land" : Str), ("moment" : Str)]
theorem sc_sound : FnScope N_sound P_sound (defScope s_sound) := ⟨rfl, rfl, rfl, by decide +kernel, rfl, by decide +kernel, by decide +kernel⟩
abbrev s_sorts_of : Stmt := top 20
abbrev N_sorts_of : List Str := [("many" : Str), ("ends" : Str), ("place" : Str)]
abbrev P_sorts_of : List Str := [("many" : Str)]
theorem sc_sorts_of : FnScope N_sorts_of P_sorts_of (defScope s_sorts_of) := ⟨rfl, rfl, rfl, by decide +kernel, rfl, by decide +kernel, by decide +kernel⟩
abbrev s_strokes : Stmt := top 21
abbrev N_strokes : List Str := [("clock" : Str), ("land" : Str), ("total" : Str), ("hour" : Str), ("many_hours" : Str), ("hour_sum" : Str), ("part" : Str), ("many_parts" : Str), ("part_sum" : Str), ("often" : Str)]
abbrev P_strokes : List Str := [("clock" : Str), ("land" : Str)]
theorem sc_strokes : FnScope N_strokes P_strokes (defScope s_strokes) := ⟨rfl, rfl, rfl, by decide +kernel, rfl, by decide +kernel, by decide +kernel⟩
abbrev s_lands_to : Stmt := top 24
abbrev N_lands_to : List Str := [("most" : Str), ("h" : Str), ("q" : Str)]
abbrev P_lands_to : List Str := [("most" : Str)]
theorem sc_lands_to : FnScope N_lands_to P_lands_to (defScope s_lands_to) := ⟨rfl, rfl, rfl, by decide +kernel, rfl, by decide +kernel, by decide +kernel⟩
abbrev s_first_unlike : Stmt := top 25
abbrev N_first_unlike : List Str := [("one" : Str), ("other" : Str), ("land" : Str), ("moment" : Str), ("pair" : Str)]
abbrev P_first_unlike : List Str := [("one" : Str), ("other" : Str)]
theorem sc_first_unlike : FnScope N_first_unlike P_first_unlike (defScope s_first_unlike) := ⟨rfl, rfl, rfl, by decide +kernel, rfl, by decide +kernel, by decide +kernel⟩
abbrev s_alike : Stmt := top 26
abbrev N_alike : List Str := [("one" : Str), ("other" : Str)]
abbrev P_alike : List Str := [("one" : Str), ("other" : Str)]
theorem sc_alike : FnScope N_alike P_alike (defScope s_alike) := ⟨rfl, rfl, rfl, by decide +kernel, rfl, by decide +kernel, by decide +kernel⟩
abbrev s_together : Stmt := top 27
abbrev N_together : List Str := [("one" : Str), ("other" : Str), ("found" : Str), ("land" : Str), ("pairs" : Str), ("does_meet" : Str), ("here" : Str), ("there" : Str)]
abbrev P_together : List Str := [("one" : Str), ("other" : Str)]
theorem sc_together : FnScope N_together P_together (defScope s_together) := ⟨rfl, rfl, rfl, by decide +kernel, rfl, by decide +kernel, by decide +kernel⟩
abbrev s_needless : Stmt := top 28
abbrev N_needless : List Str := [("clock" : Str), ("rows" : Str), ("found" : Str), ("index" : Str)]
abbrev P_needless : List Str := [("clock" : Str)]
theorem sc_needless : FnScope N_needless P_needless (defScope s_needless) := ⟨rfl, rfl, rfl, by decide +kernel, rfl, by decide +kernel, by decide +kernel⟩
abbrev s_swaps : Stmt := top 29
abbrev N_swaps : List Str := [("clock" : Str), ("rows" : Str), ("found" : Str), ("index" : Str)]
abbrev P_swaps : List Str := [("clock" : Str)]
theorem sc_swaps : FnScope N_swaps P_swaps (defScope s_swaps) := ⟨rfl, rfl, rfl, by decide +kernel, rfl, by decide +kernel, by decide +kernel⟩
abbrev s_is_in : Stmt := top 35
abbrev N_is_in : List Str := [("value" : Str), ("some" : Str)]
abbrev P_is_in : List Str := [("value" : Str), ("some" : Str)]
theorem sc_is_in : FnScope N_is_in P_is_in (defScope s_is_in) := ⟨rfl, rfl, rfl, by decide +kernel, rfl, by decide +kernel, by decide +kernel⟩
abbrev s_is_word : Stmt := top 36
abbrev N_is_word : List Str := [("value" : Str), ("some" : Str)]
abbrev P_is_word : List Str := [("value" : Str), ("some" : Str)]
theorem sc_is_word : FnScope N_is_word P_is_word (defScope s_is_word) := ⟨rfl, rfl, rfl, by decide +kernel, rfl, by decide +kernel, by decide +kernel⟩
abbrev s_is_taking : Stmt := top 37
abbrev N_is_taking : List Str := [("value" : Str), ("word" : Str)]
abbrev P_is_taking : List Str := [("value" : Str), ("word" : Str)]
theorem sc_is_taking : FnScope N_is_taking P_is_taking (defScope s_is_taking) := ⟨rfl, rfl, rfl, by decide +kernel, rfl, by decide +kernel, by decide +kernel⟩
abbrev s_is_strokes : Stmt := top 38
abbrev N_is_strokes : List Str := [("value" : Str)]
abbrev P_is_strokes : List Str := [("value" : Str)]
theorem sc_is_strokes : FnScope N_is_strokes P_is_strokes (defScope s_is_strokes) := ⟨rfl, rfl, rfl, by decide +kernel, rfl, by decide +kernel, by decide +kernel⟩
abbrev s_is_rule : Stmt := top 39
abbrev N_is_rule : List Str := [("value" : Str)]
abbrev P_is_rule : List Str := [("value" : Str)]
theorem sc_is_rule : FnScope N_is_rule P_is_rule (defScope s_is_rule) := ⟨rfl, rfl, rfl, by decide +kernel, rfl, by decide +kernel, by decide +kernel⟩
abbrev s_Clock___init__ : Stmt := inClass (top 40) 0
abbrev N_Clock___init__ : List Str := [("self" : Str), ("rules" : Str), ("index" : Str), ("rule" : Str)]
abbrev P_Clock___init__ : List Str := [("self" : Str), ("rules" : Str)]
theorem sc_Clock___init__ : FnScope N_Clock___init__ P_Clock___init__ (defScope s_Clock___init__) := ⟨rfl, rfl, rfl, by decide +kernel, rfl, by decide +kernel, by decide +kernel⟩
abbrev s_Clock___eq__ : Stmt := inClass (top 40) 2
abbrev s_is_same : Stmt := top 42
abbrev N_is_same : List Str := [("value" : Str), ("told" : Str), ("bell" : Str), ("many" : Str)]
abbrev P_is_same : List Str := [("value" : Str), ("told" : Str)]
theorem sc_is_same : FnScope N_is_same P_is_same (defScope s_is_same) := ⟨rfl, rfl, rfl, by decide +kernel, rfl, by decide +kernel, by decide +kernel⟩
abbrev s_begun_in : Stmt := top 43
abbrev N_begun_in : List Str := [("sounds" : Str), ("heard" : Str), ("found" : Str), ("at" : Str), ("value" : Str), ("moment" : Str)]
abbrev P_begun_in : List Str := [("sounds" : Str), ("heard" : Str)]
theorem sc_begun_in : FnScope N_begun_in P_begun_in (defScope s_begun_in) := ⟨rfl, rfl, rfl, by decide +kernel, rfl, by decide +kernel, by decide +kernel⟩
abbrev s_begun : Stmt := top 44
abbrev N_begun : List Str := [("clock" : Str), ("land" : Str), ("heard" : Str)]
abbrev P_begun : List Str := [("clock" : Str), ("land" : Str), ("heard" : Str)]
theorem sc_begun : FnScope N_begun P_begun (defScope s_begun) := ⟨rfl, rfl, rfl, by decide +kernel, rfl, by decide +kernel, by decide +kernel⟩
abbrev s_listening : Stmt := top 45
abbrev N_listening : List Str := [("clock" : Str), ("land" : Str), ("sounds" : Str), ("many" : Str), ("groups" : Str), ("length" : Str), ("later" : Str), ("group" : Str), ("parts" : Str), ("moment" : Str), ("part" : Str)]
abbrev P_listening : List Str := [("clock" : Str), ("land" : Str)]
theorem sc_listening : FnScope N_listening P_listening (defScope s_listening) := ⟨rfl, rfl, rfl, by decide +kernel, rfl, by decide +kernel, by decide +kernel⟩
abbrev s__law_random : Stmt := top 47
abbrev N__law_random : List Str := [("_law_script" : Str), ("_law_salt" : Str), ("_law_seed" : Str), ("_law_cell" : Str)]
abbrev P__law_random : List Str := [("_law_script" : Str), ("_law_salt" : Str)]
theorem sc__law_random : FnScope N__law_random P__law_random (defScope s__law_random) := ⟨rfl, rfl, rfl, by decide +kernel, rfl, by decide +kernel, by decide +kernel⟩
abbrev s__law_below : Stmt := top 48
abbrev N__law_below : List Str := [("_law_d" : Str), ("_law_size" : Str), ("_law_result" : Str)]
abbrev P__law_below : List Str := [("_law_d" : Str), ("_law_size" : Str)]
theorem sc__law_below : FnScope N__law_below P__law_below (defScope s__law_below) := ⟨rfl, rfl, rfl, by decide +kernel, rfl, by decide +kernel, by decide +kernel⟩
abbrev s__law_pick : Stmt := top 49
abbrev N__law_pick : List Str := [("_law_d" : Str), ("_law_items" : Str)]
abbrev P__law_pick : List Str := [("_law_d" : Str), ("_law_items" : Str)]
theorem sc__law_pick : FnScope N__law_pick P__law_pick (defScope s__law_pick) := ⟨rfl, rfl, rfl, by decide +kernel, rfl, by decide +kernel, by decide +kernel⟩
abbrev s__law_taking : Stmt := top 50
abbrev N__law_taking : List Str := [("_law_d" : Str), ("_law_word" : Str), ("_law_pick_here" : Str)]
abbrev P__law_taking : List Str := [("_law_d" : Str), ("_law_word" : Str)]
theorem sc__law_taking : FnScope N__law_taking P__law_taking (defScope s__law_taking) := ⟨rfl, rfl, rfl, by decide +kernel, rfl, by decide +kernel, by decide +kernel⟩
abbrev s__law_rule : Stmt := top 51
abbrev N__law_rule : List Str := [("_law_d" : Str), ("_law_often" : Str)]
abbrev P__law_rule : List Str := [("_law_d" : Str)]
theorem sc__law_rule : FnScope N__law_rule P__law_rule (defScope s__law_rule) := ⟨rfl, rfl, rfl, by decide +kernel, rfl, by decide +kernel, by decide +kernel⟩
abbrev s__law_rules : Stmt := top 52
abbrev N__law_rules : List Str := [("_law_d" : Str), ("_law_most" : Str), ("_law_k" : Str)]
abbrev P__law_rules : List Str := [("_law_d" : Str), ("_law_most" : Str)]
theorem sc__law_rules : FnScope N__law_rules P__law_rules (defScope s__law_rules) := ⟨rfl, rfl, rfl, by decide +kernel, rfl, by decide +kernel, by decide +kernel⟩
abbrev s__law_near : Stmt := top 53
abbrev N__law_near : List Str := [("_law_d" : Str), ("_law_rules_here" : Str), ("_law_k" : Str), ("_law_hours" : Str), ("_law_parts" : Str), ("_law_bell" : Str), ("_law_often" : Str), ("_law_pick_here" : Str), ("_law_one" : Str)]
abbrev P__law_near : List Str := [("_law_d" : Str), ("_law_rules_here" : Str)]
theorem sc__law_near : FnScope N__law_near P__law_near (defScope s__law_near) := ⟨rfl, rfl, rfl, by decide +kernel, rfl, by decide +kernel, by decide +kernel⟩
abbrev s__law_moment : Stmt := top 54
abbrev N__law_moment : List Str := [("_law_d" : Str), ("_law_land" : Str), ("_law_hour" : Str)]
abbrev P__law_moment : List Str := [("_law_d" : Str), ("_law_land" : Str)]
theorem sc__law_moment : FnScope N__law_moment P__law_moment (defScope s__law_moment) := ⟨rfl, rfl, rfl, by decide +kernel, rfl, by decide +kernel, by decide +kernel⟩
abbrev s_law : Stmt := top 55
abbrev N_law : List Str := [("_law_script" : Str), ("_law_d" : Str), ("_law_rules_here" : Str), ("_law_other" : Str), ("_law_here" : Str), ("_law_there" : Str), ("_law_are_same" : Str), ("_law_never" : Str), ("_law_land" : Str), ("_law_idle" : Str), ("_law_turn" : Str), ("_law_moment_here" : Str), ("_law_one" : Str), ("_law_two" : Str), ("_law_k" : Str), ("_law_bell" : Str), ("_law_always" : Str), ("_law_small" : Str), ("_law_day" : Str), ("_law_least" : Str)]
abbrev P_law : List Str := [("_law_script" : Str)]
theorem sc_law : FnScope N_law P_law (defScope s_law) := ⟨rfl, rfl, rfl, by decide +kernel, rfl, by decide +kernel, by decide +kernel⟩
def dd_is_from : He.DefD := ⟨("is_from", none), "is_from", "is_from", defArgs s_is_from, defBody s_is_from, defScope s_is_from, [], []⟩
def dd_need_land : He.DefD := ⟨("need_land", none), "need_land", "need_land", defArgs s_need_land, defBody s_need_land, defScope s_need_land, [], []⟩
def dd_need_small : He.DefD := ⟨("need_small", none), "need_small", "need_small", defArgs s_need_small, defBody s_need_small, defScope s_need_small, [], []⟩
def dd_need_moment : He.DefD := ⟨("need_moment", none), "need_moment", "need_moment", defArgs s_need_moment, defBody s_need_moment, defScope s_need_moment, [], []⟩
def dd_takes : He.DefD := ⟨("takes", none), "takes", "takes", defArgs s_takes, defBody s_takes, defScope s_takes, [], []⟩
def dd_struck : He.DefD := ⟨("struck", none), "struck", "struck", defArgs s_struck, defBody s_struck, defScope s_struck, [], []⟩
def dd_sound_at : He.DefD := ⟨("sound_at", none), "sound_at", "sound_at", defArgs s_sound_at, defBody s_sound_at, defScope s_sound_at, [], []⟩
def dd_number_of : He.DefD := ⟨("number_of", none), "number_of", "number_of", defArgs s_number_of, defBody s_number_of, defScope s_number_of, [], []⟩
def dd_sounds_of : He.DefD := ⟨("sounds_of", none), "sounds_of", "sounds_of", defArgs s_sounds_of, defBody s_sounds_of, defScope s_sounds_of, [], []⟩
def dd_sound : He.DefD := ⟨("sound", none), "sound", "sound", defArgs s_sound, defBody s_sound, defScope s_sound, [], []⟩
def dd_sorts_of : He.DefD := ⟨("sorts_of", none), "sorts_of", "sorts_of", defArgs s_sorts_of, defBody s_sorts_of, defScope s_sorts_of, [], []⟩
def dd_strokes : He.DefD := ⟨("strokes", none), "strokes", "strokes", defArgs s_strokes, defBody s_strokes, defScope s_strokes, [], []⟩
def dd_lands_to : He.DefD := ⟨("lands_to", none), "lands_to", "lands_to", defArgs s_lands_to, defBody s_lands_to, defScope s_lands_to, [], []⟩
def dd_first_unlike : He.DefD := ⟨("first_unlike", none), "first_unlike", "first_unlike", defArgs s_first_unlike, defBody s_first_unlike, defScope s_first_unlike, [], []⟩
def dd_alike : He.DefD := ⟨("alike", none), "alike", "alike", defArgs s_alike, defBody s_alike, defScope s_alike, [], []⟩
def dd_together : He.DefD := ⟨("together", none), "together", "together", defArgs s_together, defBody s_together, defScope s_together, [], []⟩
def dd_needless : He.DefD := ⟨("needless", none), "needless", "needless", defArgs s_needless, defBody s_needless, defScope s_needless, [], []⟩
def dd_swaps : He.DefD := ⟨("swaps", none), "swaps", "swaps", defArgs s_swaps, defBody s_swaps, defScope s_swaps, [], []⟩
def dd_is_in : He.DefD := ⟨("is_in", none), "is_in", "is_in", defArgs s_is_in, defBody s_is_in, defScope s_is_in, [], []⟩
def dd_is_word : He.DefD := ⟨("is_word", none), "is_word", "is_word", defArgs s_is_word, defBody s_is_word, defScope s_is_word, [], []⟩
def dd_is_taking : He.DefD := ⟨("is_taking", none), "is_taking", "is_taking", defArgs s_is_taking, defBody s_is_taking, defScope s_is_taking, [], []⟩
def dd_is_strokes : He.DefD := ⟨("is_strokes", none), "is_strokes", "is_strokes", defArgs s_is_strokes, defBody s_is_strokes, defScope s_is_strokes, [], []⟩
def dd_is_rule : He.DefD := ⟨("is_rule", none), "is_rule", "is_rule", defArgs s_is_rule, defBody s_is_rule, defScope s_is_rule, [], []⟩
def dd_Clock___init__ : He.DefD := ⟨("Clock", some "__init__"), "__init__", "Clock.__init__", defArgs s_Clock___init__, defBody s_Clock___init__, defScope s_Clock___init__, [], []⟩
def dd_Clock___eq__ : He.DefD := ⟨("Clock", some "__eq__"), "__eq__", "Clock.__eq__", defArgs s_Clock___eq__, defBody s_Clock___eq__, defScope s_Clock___eq__, [], []⟩
def dd_is_same : He.DefD := ⟨("is_same", none), "is_same", "is_same", defArgs s_is_same, defBody s_is_same, defScope s_is_same, [], []⟩
def dd_begun_in : He.DefD := ⟨("begun_in", none), "begun_in", "begun_in", defArgs s_begun_in, defBody s_begun_in, defScope s_begun_in, [], []⟩
def dd_begun : He.DefD := ⟨("begun", none), "begun", "begun", defArgs s_begun, defBody s_begun, defScope s_begun, [], []⟩
def dd_listening : He.DefD := ⟨("listening", none), "listening", "listening", defArgs s_listening, defBody s_listening, defScope s_listening, [], []⟩
def dd__law_random : He.DefD := ⟨("_law_random", none), "_law_random", "_law_random", defArgs s__law_random, defBody s__law_random, defScope s__law_random, [], []⟩
def dd__law_below : He.DefD := ⟨("_law_below", none), "_law_below", "_law_below", defArgs s__law_below, defBody s__law_below, defScope s__law_below, [], []⟩
def dd__law_pick : He.DefD := ⟨("_law_pick", none), "_law_pick", "_law_pick", defArgs s__law_pick, defBody s__law_pick, defScope s__law_pick, [], []⟩
def dd__law_taking : He.DefD := ⟨("_law_taking", none), "_law_taking", "_law_taking", defArgs s__law_taking, defBody s__law_taking, defScope s__law_taking, [], []⟩
def dd__law_rule : He.DefD := ⟨("_law_rule", none), "_law_rule", "_law_rule", defArgs s__law_rule, defBody s__law_rule, defScope s__law_rule, [], []⟩
def dd__law_rules : He.DefD := ⟨("_law_rules", none), "_law_rules", "_law_rules", defArgs s__law_rules, defBody s__law_rules, defScope s__law_rules, [], []⟩
def dd__law_near : He.DefD := ⟨("_law_near", none), "_law_near", "_law_near", defArgs s__law_near, defBody s__law_near, defScope s__law_near, [], []⟩
def dd__law_moment : He.DefD := ⟨("_law_moment", none), "_law_moment", "_law_moment", defArgs s__law_moment, defBody s__law_moment, defScope s__law_moment, [], []⟩
def dd_law : He.DefD := ⟨("law", none), "law", "law", defArgs s_law, defBody s_law, defScope s_law, [], []⟩
def fnL : List He.DefD := [dd_is_from, dd_need_land, dd_need_small, dd_need_moment, dd_takes, dd_struck, dd_sound_at, dd_number_of, dd_sounds_of, dd_sound, dd_sorts_of, dd_strokes, dd_lands_to, dd_first_unlike, dd_alike, dd_together, dd_needless, dd_swaps, dd_is_in, dd_is_word, dd_is_taking, dd_is_strokes, dd_is_rule, dd_Clock___init__, dd_Clock___eq__, dd_is_same, dd_begun_in, dd_begun, dd_listening, dd__law_random, dd__law_below, dd__law_pick, dd__law_taking, dd__law_rule, dd__law_rules, dd__law_near, dd__law_moment, dd_law]
def faL : List He.Fa := [.glo "is_from", .glo "need_land", .glo "need_small", .glo "need_moment", .glo "takes", .glo "struck", .glo "sound_at", .glo "number_of", .glo "sounds_of", .glo "sound", .glo "sorts_of", .glo "strokes", .glo "lands_to", .glo "first_unlike", .glo "alike", .glo "together", .glo "needless", .glo "swaps", .glo "is_in", .glo "is_word", .glo "is_taking", .glo "is_strokes", .glo "is_rule", .glo "is_same", .glo "begun_in", .glo "begun", .glo "listening", .glo "_law_random", .glo "_law_below", .glo "_law_pick", .glo "_law_taking", .glo "_law_rule", .glo "_law_rules", .glo "_law_near", .glo "_law_moment", .glo "law", .free "len", .free "sum", .free "all", .free "any", .free "abs", .free "isinstance", .free "sorted", .free "range", .free "tuple", .free "list", .free "int", .free "str", .free "bool", .free "enumerate", .free "zip", .glo "BellError", .glo "BadRules", .glo "BadLand", .glo "BadMoment", .glo "Clock", .cls "Clock", .mkr "Clock", .exc "BellError", .exc "BadLand", .exc "BadMoment", .exm "BellError" "BellError" true, .exm "BellError" "BadRules" false, .exm "BellError" "BadLand" false, .exm "BellError" "BadMoment" false, .exm "BadRules" "BellError" true, .exm "BadRules" "BadRules" true, .exm "BadRules" "BadLand" false, .exm "BadRules" "BadMoment" false, .exm "BadLand" "BellError" true, .exm "BadLand" "BadRules" false, .exm "BadLand" "BadLand" true, .exm "BadLand" "BadMoment" false, .exm "BadMoment" "BellError" true, .exm "BadMoment" "BadRules" false, .exm "BadMoment" "BadLand" false, .exm "BadMoment" "BadMoment" true, .noat "Clock" "rows", .meth "Clock" "__eq__", .int "GREATEST" (1000000000000000000000000000000), .int "FARTHEST" (10000000000000000000000000000000000000000000000000000000000000000), .int "MOST_DAY" (400), .int "FEW" (5), .int "ENOUGH" (10), .glo "ENDS", .glo "TIMES", .glo "BELLS", .int "MOST_RULES" (4)]
def exL (K : PySem.W.Frag) : Bool := [He.tupB K "ENDS" [.int (-2), .int (-1), .int (0), .int (1)], He.tupB K "TIMES" [.int (1), .int (2), .int (3)], He.tupB K "BELLS" [.str "high", .str "low"]].all id
/-- what is known of the text behind the top -/
structure Tx (K : PySem.W.Frag) (mg : Str → Option Value) : Prop where
  ex : ∃ (w : World) (h : Heap), K.In h ∧ h.Ns mainGlobals mg ∧ He.SaysX faL fnL [] [] exL w h K
section
variable {K : PySem.W.Frag} {mg : Str → Option Value}
theorem Tx.fact (T : Tx K mg) {f : He.Fa} (i : Nat) (h : faL[i]? = some f) : f.ok K = true := by
  obtain ⟨w, h, X, G, c⟩ := T.ex
  exact c.t.d.fact i ‹_›
theorem Tx.more (T : Tx K mg) : exL K = true := by
  obtain ⟨w, h, X, G, c⟩ := T.ex
  exact c.more
theorem Tx.def_ (T : Tx K mg) {d : He.DefD} (i : Nat) (h : fnL[i]? = some d) : ∃ fd, FunD K d.name d.qual d.params d.body d.scope (d.dvs K) (d.kws K) (He.fAd K d.at_) fd := by
  obtain ⟨w, h, X, G, c⟩ := T.ex
  exact c.t.d.def_ i ‹_›
theorem Tx.f_is_from (T : Tx K mg) : ∃ f fd, mg "is_from" = some (.ref f) ∧ Fun K "is_from" "is_from" s_is_from f fd := by
  obtain ⟨fd, F⟩ := T.def_ (d := dd_is_from) 0 rfl
  obtain ⟨w, h, X, G, c⟩ := T.ex
  exact ⟨_, fd, He.glo_ok X G (T.fact 0 rfl), funD_fun F⟩
theorem Tx.f_need_land (T : Tx K mg) : ∃ f fd, mg "need_land" = some (.ref f) ∧ Fun K "need_land" "need_land" s_need_land f fd := by
  obtain ⟨fd, F⟩ := T.def_ (d := dd_need_land) 1 rfl
  obtain ⟨w, h, X, G, c⟩ := T.ex
  exact ⟨_, fd, He.glo_ok X G (T.fact 1 rfl), funD_fun F⟩
theorem Tx.f_need_small (T : Tx K mg) : ∃ f fd, mg "need_small" = some (.ref f) ∧ Fun K "need_small" "need_small" s_need_small f fd := by
  obtain ⟨fd, F⟩ := T.def_ (d := dd_need_small) 2 rfl
  obtain ⟨w, h, X, G, c⟩ := T.ex
  exact ⟨_, fd, He.glo_ok X G (T.fact 2 rfl), funD_fun F⟩
theorem Tx.f_need_moment (T : Tx K mg) : ∃ f fd, mg "need_moment" = some (.ref f) ∧ Fun K "need_moment" "need_moment" s_need_moment f fd := by
  obtain ⟨fd, F⟩ := T.def_ (d := dd_need_moment) 3 rfl
  obtain ⟨w, h, X, G, c⟩ := T.ex
  exact ⟨_, fd, He.glo_ok X G (T.fact 3 rfl), funD_fun F⟩
theorem Tx.f_takes (T : Tx K mg) : ∃ f fd, mg "takes" = some (.ref f) ∧ Fun K "takes" "takes" s_takes f fd := by
  obtain ⟨fd, F⟩ := T.def_ (d := dd_takes) 4 rfl
  obtain ⟨w, h, X, G, c⟩ := T.ex
  exact ⟨_, fd, He.glo_ok X G (T.fact 4 rfl), funD_fun F⟩
theorem Tx.f_struck (T : Tx K mg) : ∃ f fd, mg "struck" = some (.ref f) ∧ Fun K "struck" "struck" s_struck f fd := by
  obtain ⟨fd, F⟩ := T.def_ (d := dd_struck) 5 rfl
  obtain ⟨w, h, X, G, c⟩ := T.ex
  exact ⟨_, fd, He.glo_ok X G (T.fact 5 rfl), funD_fun F⟩
theorem Tx.f_sound_at (T : Tx K mg) : ∃ f fd, mg "sound_at" = some (.ref f) ∧ Fun K "sound_at" "sound_at" s_sound_at f fd := by
  obtain ⟨fd, F⟩ := T.def_ (d := dd_sound_at) 6 rfl
  obtain ⟨w, h, X, G, c⟩ := T.ex
  exact ⟨_, fd, He.glo_ok X G (T.fact 6 rfl), funD_fun F⟩
theorem Tx.f_number_of (T : Tx K mg) : ∃ f fd, mg "number_of" = some (.ref f) ∧ Fun K "number_of" "number_of" s_number_of f fd := by
  obtain ⟨fd, F⟩ := T.def_ (d := dd_number_of) 7 rfl
  obtain ⟨w, h, X, G, c⟩ := T.ex
  exact ⟨_, fd, He.glo_ok X G (T.fact 7 rfl), funD_fun F⟩
theorem Tx.f_sounds_of (T : Tx K mg) : ∃ f fd, mg "sounds_of" = some (.ref f) ∧ Fun K "sounds_of" "sounds_of" s_sounds_of f fd := by
  obtain ⟨fd, F⟩ := T.def_ (d := dd_sounds_of) 8 rfl
  obtain ⟨w, h, X, G, c⟩ := T.ex
  exact ⟨_, fd, He.glo_ok X G (T.fact 8 rfl), funD_fun F⟩
theorem Tx.f_sound (T : Tx K mg) : ∃ f fd, mg "sound" = some (.ref f) ∧ Fun K "sound" "sound" s_sound f fd := by
  obtain ⟨fd, F⟩ := T.def_ (d := dd_sound) 9 rfl
  obtain ⟨w, h, X, G, c⟩ := T.ex
  exact ⟨_, fd, He.glo_ok X G (T.fact 9 rfl), funD_fun F⟩
theorem Tx.f_sorts_of (T : Tx K mg) : ∃ f fd, mg "sorts_of" = some (.ref f) ∧ Fun K "sorts_of" "sorts_of" s_sorts_of f fd := by
  obtain ⟨fd, F⟩ := T.def_ (d := dd_sorts_of) 10 rfl
  obtain ⟨w, h, X, G, c⟩ := T.ex
  exact ⟨_, fd, He.glo_ok X G (T.fact 10 rfl), funD_fun F⟩
theorem Tx.f_strokes (T : Tx K mg) : ∃ f fd, mg "strokes" = some (.ref f) ∧ Fun K "strokes" "strokes" s_strokes f fd := by
  obtain ⟨fd, F⟩ := T.def_ (d := dd_strokes) 11 rfl
  obtain ⟨w, h, X, G, c⟩ := T.ex
  exact ⟨_, fd, He.glo_ok X G (T.fact 11 rfl), funD_fun F⟩
theorem Tx.f_lands_to (T : Tx K mg) : ∃ f fd, mg "lands_to" = some (.ref f) ∧ Fun K "lands_to" "lands_to" s_lands_to f fd := by
  obtain ⟨fd, F⟩ := T.def_ (d := dd_lands_to) 12 rfl
  obtain ⟨w, h, X, G, c⟩ := T.ex
  exact ⟨_, fd, He.glo_ok X G (T.fact 12 rfl), funD_fun F⟩
theorem Tx.f_first_unlike (T : Tx K mg) : ∃ f fd, mg "first_unlike" = some (.ref f) ∧ Fun K "first_unlike" "first_unlike" s_first_unlike f fd := by
  obtain ⟨fd, F⟩ := T.def_ (d := dd_first_unlike) 13 rfl
  obtain ⟨w, h, X, G, c⟩ := T.ex
  exact ⟨_, fd, He.glo_ok X G (T.fact 13 rfl), funD_fun F⟩
theorem Tx.f_alike (T : Tx K mg) : ∃ f fd, mg "alike" = some (.ref f) ∧ Fun K "alike" "alike" s_alike f fd := by
  obtain ⟨fd, F⟩ := T.def_ (d := dd_alike) 14 rfl
  obtain ⟨w, h, X, G, c⟩ := T.ex
  exact ⟨_, fd, He.glo_ok X G (T.fact 14 rfl), funD_fun F⟩
theorem Tx.f_together (T : Tx K mg) : ∃ f fd, mg "together" = some (.ref f) ∧ Fun K "together" "together" s_together f fd := by
  obtain ⟨fd, F⟩ := T.def_ (d := dd_together) 15 rfl
  obtain ⟨w, h, X, G, c⟩ := T.ex
  exact ⟨_, fd, He.glo_ok X G (T.fact 15 rfl), funD_fun F⟩
theorem Tx.f_needless (T : Tx K mg) : ∃ f fd, mg "needless" = some (.ref f) ∧ Fun K "needless" "needless" s_needless f fd := by
  obtain ⟨fd, F⟩ := T.def_ (d := dd_needless) 16 rfl
  obtain ⟨w, h, X, G, c⟩ := T.ex
  exact ⟨_, fd, He.glo_ok X G (T.fact 16 rfl), funD_fun F⟩
theorem Tx.f_swaps (T : Tx K mg) : ∃ f fd, mg "swaps" = some (.ref f) ∧ Fun K "swaps" "swaps" s_swaps f fd := by
  obtain ⟨fd, F⟩ := T.def_ (d := dd_swaps) 17 rfl
  obtain ⟨w, h, X, G, c⟩ := T.ex
  exact ⟨_, fd, He.glo_ok X G (T.fact 17 rfl), funD_fun F⟩
theorem Tx.f_is_in (T : Tx K mg) : ∃ f fd, mg "is_in" = some (.ref f) ∧ Fun K "is_in" "is_in" s_is_in f fd := by
  obtain ⟨fd, F⟩ := T.def_ (d := dd_is_in) 18 rfl
  obtain ⟨w, h, X, G, c⟩ := T.ex
  exact ⟨_, fd, He.glo_ok X G (T.fact 18 rfl), funD_fun F⟩
theorem Tx.f_is_word (T : Tx K mg) : ∃ f fd, mg "is_word" = some (.ref f) ∧ Fun K "is_word" "is_word" s_is_word f fd := by
  obtain ⟨fd, F⟩ := T.def_ (d := dd_is_word) 19 rfl
  obtain ⟨w, h, X, G, c⟩ := T.ex
  exact ⟨_, fd, He.glo_ok X G (T.fact 19 rfl), funD_fun F⟩
theorem Tx.f_is_taking (T : Tx K mg) : ∃ f fd, mg "is_taking" = some (.ref f) ∧ Fun K "is_taking" "is_taking" s_is_taking f fd := by
  obtain ⟨fd, F⟩ := T.def_ (d := dd_is_taking) 20 rfl
  obtain ⟨w, h, X, G, c⟩ := T.ex
  exact ⟨_, fd, He.glo_ok X G (T.fact 20 rfl), funD_fun F⟩
theorem Tx.f_is_strokes (T : Tx K mg) : ∃ f fd, mg "is_strokes" = some (.ref f) ∧ Fun K "is_strokes" "is_strokes" s_is_strokes f fd := by
  obtain ⟨fd, F⟩ := T.def_ (d := dd_is_strokes) 21 rfl
  obtain ⟨w, h, X, G, c⟩ := T.ex
  exact ⟨_, fd, He.glo_ok X G (T.fact 21 rfl), funD_fun F⟩
theorem Tx.f_is_rule (T : Tx K mg) : ∃ f fd, mg "is_rule" = some (.ref f) ∧ Fun K "is_rule" "is_rule" s_is_rule f fd := by
  obtain ⟨fd, F⟩ := T.def_ (d := dd_is_rule) 22 rfl
  obtain ⟨w, h, X, G, c⟩ := T.ex
  exact ⟨_, fd, He.glo_ok X G (T.fact 22 rfl), funD_fun F⟩
theorem Tx.f_Clock___init__ (T : Tx K mg) : ∃ fd, Fun K "__init__" "Clock.__init__" s_Clock___init__ (He.ma K (He.ga K "Clock") "__init__") fd := by
  obtain ⟨fd, F⟩ := T.def_ (d := dd_Clock___init__) 23 rfl
  exact ⟨fd, funD_fun F⟩
theorem Tx.f_is_same (T : Tx K mg) : ∃ f fd, mg "is_same" = some (.ref f) ∧ Fun K "is_same" "is_same" s_is_same f fd := by
  obtain ⟨fd, F⟩ := T.def_ (d := dd_is_same) 25 rfl
  obtain ⟨w, h, X, G, c⟩ := T.ex
  exact ⟨_, fd, He.glo_ok X G (T.fact 23 rfl), funD_fun F⟩
theorem Tx.f_begun_in (T : Tx K mg) : ∃ f fd, mg "begun_in" = some (.ref f) ∧ Fun K "begun_in" "begun_in" s_begun_in f fd := by
  obtain ⟨fd, F⟩ := T.def_ (d := dd_begun_in) 26 rfl
  obtain ⟨w, h, X, G, c⟩ := T.ex
  exact ⟨_, fd, He.glo_ok X G (T.fact 24 rfl), funD_fun F⟩
theorem Tx.f_begun (T : Tx K mg) : ∃ f fd, mg "begun" = some (.ref f) ∧ Fun K "begun" "begun" s_begun f fd := by
  obtain ⟨fd, F⟩ := T.def_ (d := dd_begun) 27 rfl
  obtain ⟨w, h, X, G, c⟩ := T.ex
  exact ⟨_, fd, He.glo_ok X G (T.fact 25 rfl), funD_fun F⟩
theorem Tx.f_listening (T : Tx K mg) : ∃ f fd, mg "listening" = some (.ref f) ∧ Fun K "listening" "listening" s_listening f fd := by
  obtain ⟨fd, F⟩ := T.def_ (d := dd_listening) 28 rfl
  obtain ⟨w, h, X, G, c⟩ := T.ex
  exact ⟨_, fd, He.glo_ok X G (T.fact 26 rfl), funD_fun F⟩
theorem Tx.f__law_random (T : Tx K mg) : ∃ f fd, mg "_law_random" = some (.ref f) ∧ Fun K "_law_random" "_law_random" s__law_random f fd := by
  obtain ⟨fd, F⟩ := T.def_ (d := dd__law_random) 29 rfl
  obtain ⟨w, h, X, G, c⟩ := T.ex
  exact ⟨_, fd, He.glo_ok X G (T.fact 27 rfl), funD_fun F⟩
theorem Tx.f__law_below (T : Tx K mg) : ∃ f fd, mg "_law_below" = some (.ref f) ∧ Fun K "_law_below" "_law_below" s__law_below f fd := by
  obtain ⟨fd, F⟩ := T.def_ (d := dd__law_below) 30 rfl
  obtain ⟨w, h, X, G, c⟩ := T.ex
  exact ⟨_, fd, He.glo_ok X G (T.fact 28 rfl), funD_fun F⟩
theorem Tx.f__law_pick (T : Tx K mg) : ∃ f fd, mg "_law_pick" = some (.ref f) ∧ Fun K "_law_pick" "_law_pick" s__law_pick f fd := by
  obtain ⟨fd, F⟩ := T.def_ (d := dd__law_pick) 31 rfl
  obtain ⟨w, h, X, G, c⟩ := T.ex
  exact ⟨_, fd, He.glo_ok X G (T.fact 29 rfl), funD_fun F⟩
theorem Tx.f__law_taking (T : Tx K mg) : ∃ f fd, mg "_law_taking" = some (.ref f) ∧ Fun K "_law_taking" "_law_taking" s__law_taking f fd := by
  obtain ⟨fd, F⟩ := T.def_ (d := dd__law_taking) 32 rfl
  obtain ⟨w, h, X, G, c⟩ := T.ex
  exact ⟨_, fd, He.glo_ok X G (T.fact 30 rfl), funD_fun F⟩
theorem Tx.f__law_rule (T : Tx K mg) : ∃ f fd, mg "_law_rule" = some (.ref f) ∧ Fun K "_law_rule" "_law_rule" s__law_rule f fd := by
  obtain ⟨fd, F⟩ := T.def_ (d := dd__law_rule) 33 rfl
  obtain ⟨w, h, X, G, c⟩ := T.ex
  exact ⟨_, fd, He.glo_ok X G (T.fact 31 rfl), funD_fun F⟩
theorem Tx.f__law_rules (T : Tx K mg) : ∃ f fd, mg "_law_rules" = some (.ref f) ∧ Fun K "_law_rules" "_law_rules" s__law_rules f fd := by
  obtain ⟨fd, F⟩ := T.def_ (d := dd__law_rules) 34 rfl
  obtain ⟨w, h, X, G, c⟩ := T.ex
  exact ⟨_, fd, He.glo_ok X G (T.fact 32 rfl), funD_fun F⟩
theorem Tx.f__law_near (T : Tx K mg) : ∃ f fd, mg "_law_near" = some (.ref f) ∧ Fun K "_law_near" "_law_near" s__law_near f fd := by
  obtain ⟨fd, F⟩ := T.def_ (d := dd__law_near) 35 rfl
  obtain ⟨w, h, X, G, c⟩ := T.ex
  exact ⟨_, fd, He.glo_ok X G (T.fact 33 rfl), funD_fun F⟩
theorem Tx.f__law_moment (T : Tx K mg) : ∃ f fd, mg "_law_moment" = some (.ref f) ∧ Fun K "_law_moment" "_law_moment" s__law_moment f fd := by
  obtain ⟨fd, F⟩ := T.def_ (d := dd__law_moment) 36 rfl
  obtain ⟨w, h, X, G, c⟩ := T.ex
  exact ⟨_, fd, He.glo_ok X G (T.fact 34 rfl), funD_fun F⟩
theorem Tx.n_len (T : Tx K mg) : mg "len" = none := by
  obtain ⟨w, h, X, G, c⟩ := T.ex
  exact He.free_ok X G (T.fact 36 rfl)
theorem b_len : bootBuiltins "len" = some (.builtin "len") := by decide +kernel
theorem Tx.n_sum (T : Tx K mg) : mg "sum" = none := by
  obtain ⟨w, h, X, G, c⟩ := T.ex
  exact He.free_ok X G (T.fact 37 rfl)
theorem b_sum : bootBuiltins "sum" = some (.builtin "sum") := by decide +kernel
theorem Tx.n_all (T : Tx K mg) : mg "all" = none := by
  obtain ⟨w, h, X, G, c⟩ := T.ex
  exact He.free_ok X G (T.fact 38 rfl)
theorem b_all : bootBuiltins "all" = some (.builtin "all") := by decide +kernel
theorem Tx.n_any (T : Tx K mg) : mg "any" = none := by
  obtain ⟨w, h, X, G, c⟩ := T.ex
  exact He.free_ok X G (T.fact 39 rfl)
theorem b_any : bootBuiltins "any" = some (.builtin "any") := by decide +kernel
theorem Tx.n_abs (T : Tx K mg) : mg "abs" = none := by
  obtain ⟨w, h, X, G, c⟩ := T.ex
  exact He.free_ok X G (T.fact 40 rfl)
theorem b_abs : bootBuiltins "abs" = some (.builtin "abs") := by decide +kernel
theorem Tx.n_isinstance (T : Tx K mg) : mg "isinstance" = none := by
  obtain ⟨w, h, X, G, c⟩ := T.ex
  exact He.free_ok X G (T.fact 41 rfl)
theorem b_isinstance : bootBuiltins "isinstance" = some (.builtin "isinstance") := by decide +kernel
theorem Tx.n_sorted (T : Tx K mg) : mg "sorted" = none := by
  obtain ⟨w, h, X, G, c⟩ := T.ex
  exact He.free_ok X G (T.fact 42 rfl)
theorem b_sorted : bootBuiltins "sorted" = some (.builtin "sorted") := by decide +kernel
theorem Tx.n_range (T : Tx K mg) : mg "range" = none := by
  obtain ⟨w, h, X, G, c⟩ := T.ex
  exact He.free_ok X G (T.fact 43 rfl)
theorem b_range : bootBuiltins "range" = some (.type "range") := by decide +kernel
theorem Tx.n_tuple (T : Tx K mg) : mg "tuple" = none := by
  obtain ⟨w, h, X, G, c⟩ := T.ex
  exact He.free_ok X G (T.fact 44 rfl)
theorem b_tuple : bootBuiltins "tuple" = some (.type "tuple") := by decide +kernel
theorem Tx.n_list (T : Tx K mg) : mg "list" = none := by
  obtain ⟨w, h, X, G, c⟩ := T.ex
  exact He.free_ok X G (T.fact 45 rfl)
theorem b_list : bootBuiltins "list" = some (.type "list") := by decide +kernel
theorem Tx.n_int (T : Tx K mg) : mg "int" = none := by
  obtain ⟨w, h, X, G, c⟩ := T.ex
  exact He.free_ok X G (T.fact 46 rfl)
theorem b_int : bootBuiltins "int" = some (.type "int") := by decide +kernel
theorem Tx.n_str (T : Tx K mg) : mg "str" = none := by
  obtain ⟨w, h, X, G, c⟩ := T.ex
  exact He.free_ok X G (T.fact 47 rfl)
theorem b_str : bootBuiltins "str" = some (.type "str") := by decide +kernel
theorem Tx.n_bool (T : Tx K mg) : mg "bool" = none := by
  obtain ⟨w, h, X, G, c⟩ := T.ex
  exact He.free_ok X G (T.fact 48 rfl)
theorem b_bool : bootBuiltins "bool" = some (.type "bool") := by decide +kernel
theorem Tx.n_enumerate (T : Tx K mg) : mg "enumerate" = none := by
  obtain ⟨w, h, X, G, c⟩ := T.ex
  exact He.free_ok X G (T.fact 49 rfl)
theorem b_enumerate : bootBuiltins "enumerate" = some (.type "enumerate") := by decide +kernel
theorem Tx.n_zip (T : Tx K mg) : mg "zip" = none := by
  obtain ⟨w, h, X, G, c⟩ := T.ex
  exact He.free_ok X G (T.fact 50 rfl)
theorem b_zip : bootBuiltins "zip" = some (.type "zip") := by decide +kernel
theorem Tx.e_BellError (T : Tx K mg) : ExcC K mg "BellError" (He.ga K "BellError") := by
  obtain ⟨w, h, X, G, c⟩ := T.ex
  exact excC_of (He.glo_ok X G (T.fact 51 rfl)) (T.fact 58 rfl)
theorem Tx.e_BadLand (T : Tx K mg) : ExcC K mg "BadLand" (He.ga K "BadLand") := by
  obtain ⟨w, h, X, G, c⟩ := T.ex
  exact excC_of (He.glo_ok X G (T.fact 53 rfl)) (T.fact 59 rfl)
theorem Tx.e_BadMoment (T : Tx K mg) : ExcC K mg "BadMoment" (He.ga K "BadMoment") := by
  obtain ⟨w, h, X, G, c⟩ := T.ex
  exact excC_of (He.glo_ok X G (T.fact 54 rfl)) (T.fact 60 rfl)
theorem Tx.g_Clock (T : Tx K mg) : mg "Clock" = some (.ref (He.ga K "Clock")) := by
  obtain ⟨w, h, X, G, c⟩ := T.ex
  exact He.glo_ok X G (T.fact 55 rfl)
theorem Tx.c_Clock (T : Tx K mg) : Cls K (He.ga K "Clock") := He.cls_ok (T.fact 56 rfl)
theorem Tx.m_Clock (T : Tx K mg) : Mk K (He.ga K "Clock") (He.ma K (He.ga K "Clock") "__init__") := He.mkr_ok (T.fact 57 rfl)
theorem Tx.na_Clock_rows (T : Tx K mg) : NoAttr K (He.ga K "Clock") "rows" := He.noat_ok (T.fact 77 rfl)
theorem Tx.i_GREATEST (T : Tx K mg) : ∃ t, mg "GREATEST" = some (.int (1000000000000000000000000000000) t) := by
  obtain ⟨w, h, X, G, c⟩ := T.ex
  exact He.int_ok X G (T.fact 79 rfl)
theorem Tx.i_FARTHEST (T : Tx K mg) : ∃ t, mg "FARTHEST" = some (.int (10000000000000000000000000000000000000000000000000000000000000000) t) := by
  obtain ⟨w, h, X, G, c⟩ := T.ex
  exact He.int_ok X G (T.fact 80 rfl)
theorem Tx.i_MOST_DAY (T : Tx K mg) : ∃ t, mg "MOST_DAY" = some (.int (400) t) := by
  obtain ⟨w, h, X, G, c⟩ := T.ex
  exact He.int_ok X G (T.fact 81 rfl)
theorem Tx.i_FEW (T : Tx K mg) : ∃ t, mg "FEW" = some (.int (5) t) := by
  obtain ⟨w, h, X, G, c⟩ := T.ex
  exact He.int_ok X G (T.fact 82 rfl)
theorem Tx.i_ENOUGH (T : Tx K mg) : ∃ t, mg "ENOUGH" = some (.int (10) t) := by
  obtain ⟨w, h, X, G, c⟩ := T.ex
  exact He.int_ok X G (T.fact 83 rfl)
theorem Tx.t_ENDS (T : Tx K mg) : mg "ENDS" = some (.ref (He.ga K "ENDS")) ∧ ∀ H, SqT K H (He.ga K "ENDS") (([.int (-2), .int (-1), .int (0), .int (1)] : List He.Dv).map (He.Dv.v K)) := by
  obtain ⟨w, h, X, G, c⟩ := T.ex
  exact ⟨He.glo_ok X G (T.fact 84 rfl), He.tupB_ok (List.all_eq_true.mp (show ([He.tupB K "ENDS" [.int (-2), .int (-1), .int (0), .int (1)], He.tupB K "TIMES" [.int (1), .int (2), .int (3)], He.tupB K "BELLS" [.str "high", .str "low"]].all id) = true from T.more) _ (by exact .head _))⟩
theorem Tx.t_TIMES (T : Tx K mg) : mg "TIMES" = some (.ref (He.ga K "TIMES")) ∧ ∀ H, SqT K H (He.ga K "TIMES") (([.int (1), .int (2), .int (3)] : List He.Dv).map (He.Dv.v K)) := by
  obtain ⟨w, h, X, G, c⟩ := T.ex
  exact ⟨He.glo_ok X G (T.fact 85 rfl), He.tupB_ok (List.all_eq_true.mp (show ([He.tupB K "ENDS" [.int (-2), .int (-1), .int (0), .int (1)], He.tupB K "TIMES" [.int (1), .int (2), .int (3)], He.tupB K "BELLS" [.str "high", .str "low"]].all id) = true from T.more) _ (by exact .tail _ (.head _)))⟩
theorem Tx.t_BELLS (T : Tx K mg) : mg "BELLS" = some (.ref (He.ga K "BELLS")) ∧ ∀ H, SqT K H (He.ga K "BELLS") (([.str "high", .str "low"] : List He.Dv).map (He.Dv.v K)) := by
  obtain ⟨w, h, X, G, c⟩ := T.ex
  exact ⟨He.glo_ok X G (T.fact 86 rfl), He.tupB_ok (List.all_eq_true.mp (show ([He.tupB K "ENDS" [.int (-2), .int (-1), .int (0), .int (1)], He.tupB K "TIMES" [.int (1), .int (2), .int (3)], He.tupB K "BELLS" [.str "high", .str "low"]].all id) = true from T.more) _ (by exact .tail _ (.tail _ (.head _))))⟩
theorem Tx.i_MOST_RULES (T : Tx K mg) : ∃ t, mg "MOST_RULES" = some (.int (4) t) := by
  obtain ⟨w, h, X, G, c⟩ := T.ex
  exact He.int_ok X G (T.fact 87 rfl)
end
/-! ### the top's run -/
abbrev R0 : PySem.W.OpenRow := PySem.W.OpenLaw.row PySem.Challenge.rw_hourbells_k12_things_that_hold
abbrev hk0 : PySem.W.Hook := He.hookX 4 faL fnL [] [] exL
def ob0 (s : PySem.W.SharedT) : He.AlX := He.obsX 4 faL fnL [] [] exL (HandSHeadRun.getT s)
theorem ob0_eq (s : PySem.W.SharedT) : ob0 s = hk0.obs s.abs := He.obsX_eq (HandSHeadRun.getT_eq s)
abbrev loose0 : List Str := [("BellError" : Str), ("BadRules" : Str), ("BadLand" : Str), ("BadMoment" : Str), ("GREATEST" : Str), ("FARTHEST" : Str), ("MOST_DAY" : Str), ("FEW" : Str), ("is_from" : Str), ("need_land" : Str), ("need_small" : Str), ("need_moment" : Str), ("takes" : Str), ("struck" : Str), ("sound_at" : Str), ("number_of" : Str), ("sounds_of" : Str), ("sound" : Str), ("sorts_of" : Str), ("strokes" : Str), ("ENOUGH" : Str), ("lands_to" : Str), ("first_unlike" : Str), ("alike" : Str), ("together" : Str), ("needless" : Str), ("swaps" : Str), ("ENDS" : Str), ("TIMES" : Str), ("BELLS" : Str), ("MOST_RULES" : Str), ("is_in" : Str), ("is_word" : Str), ("is_taking" : Str), ("is_strokes" : Str), ("is_rule" : Str), ("Clock" : Str), ("is_same" : Str), ("begun_in" : Str), ("begun" : Str), ("listening" : Str), ("_law_random" : Str), ("_law_below" : Str), ("_law_pick" : Str), ("_law_taking" : Str), ("_law_rule" : Str), ("_law_rules" : Str), ("_law_near" : Str), ("_law_moment" : Str)]
set_option maxHeartbeats 0 in
theorem run0 (w : World) : HandSHeadRun.RunEq R0 (PySem.W.view R0.prog [55]) hk0 ob0 4000 loose0 w := by
  intro os
  kernel_rfl
set_option maxHeartbeats 0 in
theorem holds0 (hR : R0.wellSaid = true → R0.Holds) : PySem.Challenge.rw_hourbells_k12_things_that_hold.Holds := by
  w_on; o_law
  exact hR (by assumption)
set_option maxHeartbeats 0 in
theorem bare0 : R0.prog.bare := ⟨rfl, rfl, rfl, rfl, rfl, by decide +kernel⟩
local macro_rules | `(tactic| walk_at "name") => `(tactic| with_reducible refine we_name (hN := by with_unfolding_all exact rfl) (hr := by with_unfolding_all exact rfl) (hv := by with_unfolding_all first | exact Or.inl rfl | exact Or.inr (Or.inl rfl) | exact Or.inr (Or.inr rfl)) (hd := by with_unfolding_all exact rfl) (hcd := by with_unfolding_all exact rfl) ?_)
local macro_rules | `(tactic| walk_at "bin") => `(tactic| with_reducible first
  | refine wo_eqI ?_
  | refine wo_neI ?_
  | refine wo_eqS ?_
  | refine wo_neS ?_
  | refine wo_lt ?_
  | refine wo_le ?_
  | refine wo_gt ?_
  | refine wo_ge ?_
  | refine wo_in (s2 := by with_unfolding_all exact Or.inr rfl) (f := by with_unfolding_all exact rfl) (fl := by with_unfolding_all first | assumption | exact rfl) ?_
  | refine wo_notIn (s2 := by with_unfolding_all exact Or.inr rfl) (f := by with_unfolding_all exact rfl) (fl := by with_unfolding_all first | assumption | exact rfl) ?_
  | refine wo_inDic (by with_unfolding_all exact L2.hu_of (by assumption)) (by with_unfolding_all first | exact Sn.dic (by assumption) | exact Sn.dic cel_0 | exact Sn.dic cel_1 | constructor) (by with_unfolding_all exact rfl) ?_
  | refine wo_notInDic (by with_unfolding_all exact L2.hu_of (by assumption)) (by with_unfolding_all first | exact Sn.dic (by assumption) | exact Sn.dic cel_0 | exact Sn.dic cel_1 | constructor) (by with_unfolding_all exact rfl) ?_
  | refine wo_isN ?_
  | refine wo_notN ?_
  | refine wo_add ?_
  | refine wo_mulW (cmulW_of (by with_unfolding_all assumption) (by with_unfolding_all assumption)) ?_
  | refine wo_rep01 ?_
  | refine wo_pow (by with_unfolding_all exact And.intro (by decide) (And.intro (by decide) (by decide))) ?_
  | refine wo_mul (by with_unfolding_all first | exact Or.inr (And.intro (by decide) (by decide)) | exact Or.inl (And.intro (by decide) (by decide)) | exact Or.inr (And.intro (by omega) (by omega)) | exact Or.inl (And.intro (by omega) (by omega))) ?_
  | refine wo_div (cdiv_of (by first | assumption | decide | omega) (by with_unfolding_all first | assumption | exact And.intro (by decide) (by decide))) ?_
  | refine wo_eqD (by with_unfolding_all exact L2.Room.units (by assumption)) (by with_unfolding_all constructor) (by with_unfolding_all constructor) (by first | exact Pl.pn (Pl.mono (by assumption) (by decide)) | (simp [Pn]; done) | fail) (by first | exact Pl.pn (Pl.mono (by assumption) (by decide)) | (simp [Pn]; done) | fail) ?_
  | refine wo_neD (by with_unfolding_all exact L2.Room.units (by assumption)) (by with_unfolding_all constructor) (by with_unfolding_all constructor) (by first | exact Pl.pn (Pl.mono (by assumption) (by decide)) | (simp [Pn]; done) | fail) (by first | exact Pl.pn (Pl.mono (by assumption) (by decide)) | (simp [Pn]; done) | fail) ?_
  | refine wo_catT (by with_unfolding_all first | assumption | exact Nat.le_of_ble_eq_true rfl) ?_
  | refine wo_catS (by with_unfolding_all first | assumption | exact Nat.le_of_ble_eq_true rfl) ?_
  | refine wo_sub ?_
  | refine wo_iadd ?_
  | refine wo_mod (by with_unfolding_all first | assumption | decide | omega) ?_)
local macro_rules | `(tactic| walk_at "put") => `(tactic| with_reducible first
  | refine wset_dicE (by with_unfolding_all exact L2.hu_of (by assumption)) (by with_unfolding_all first | assumption | exact cel_0 | exact cel_1) (by with_unfolding_all exact rfl) (by with_unfolding_all assumption) (by with_unfolding_all assumption) (by with_unfolding_all first | exact set_0 | exact set_1 | exact rfl) ?_
  | refine wset_lstE (by with_unfolding_all first | assumption | exact cel_s (by assumption) | exact cel_0 | exact cel_1) (by with_unfolding_all first | assumption | exact ixN_0 | exact ixN_1 | exact rfl) (by with_unfolding_all first | exact List.set_set .. | exact set_0 | exact set_1 | exact rfl) ?_)
local macro_rules | `(tactic| walk_at "call") => `(tactic| fail)
local macro_rules | `(tactic| walk_at "global") => `(tactic| fail)
local macro_rules | `(tactic| walk_at "stmt") => `(tactic| with_reducible first
  | refine ws_ret ?_
  | refine ws_if ?_
  | refine ws_retN ?_
  | refine ws_expr (hs := by with_unfolding_all exact rfl) ?_
  | refine ws_sub (hs := by with_unfolding_all exact rfl) (hw := by with_unfolding_all exact rfl) (ha := by with_unfolding_all (intro _; exact rfl)) (h1 := by with_unfolding_all exact rfl) ?_
  | refine ws_pass ?_
  | refine ws_break ?_
  | refine ws_continue ?_)
local macro_rules | `(tactic| walk_at "expr") => `(tactic| with_reducible first
  | refine we_int ?_
  | refine we_str ?_
  | refine we_revT ?_
  | refine we_slice ?_
  | refine we_ix (hs := by with_unfolding_all (intro _ _; exact rfl)) ?_
  | refine we_cmp (hm := by with_unfolding_all first | exact nomark _ | exact rfl) ?_
  | refine we_bin ?_
  | refine we_not ?_
  | refine we_un ?_
  | refine we_and ?_
  | refine we_or ?_
  | refine we_one ?_
  | refine we_ifExp ?_
  | refine we_chain (hm := by with_unfolding_all exact rfl) ?_
  | refine we_tup ?_
  | refine we_lst ?_
  | refine we_bl ?_
  | refine we_non ?_)
local macro_rules | `(tactic| walk_at "fun") => `(tactic| with_reducible first
  | refine wc_isi (s1 := by with_unfolding_all constructor) (h := by with_unfolding_all exact rfl) (hk := by with_unfolding_all exact rfl) ?_
  | refine wc_len (s1 := by with_unfolding_all first | exact Sn.lst (by with_unfolding_all first | assumption | exact cel_s (by assumption) | exact cel_0 | exact cel_1) | constructor) (h := by with_unfolding_all exact rfl) (hz := by with_unfolding_all first | assumption | exact Nat.le_of_ble_eq_true rfl) ?_
  | refine wc_int ?_
  | refine wc_all (bs := _) (by with_unfolding_all exact rfl) (by with_unfolding_all constructor) ?_
  | refine wc_any (bs := _) (by with_unfolding_all exact rfl) (by with_unfolding_all constructor) ?_
  | refine wc_tuple (by with_unfolding_all constructor) ?_
  | refine wc_intB ?_
  | refine wc_strS ?_
  | refine wc_strI (by with_unfolding_all first | assumption | decide) ?_
  | refine wc_intS (by with_unfolding_all assumption) (by with_unfolding_all assumption) ?_
  | refine wc_listT ?_
  | refine wc_max2 (by with_unfolding_all exact rfl) ?_
  | refine wc_maxL2 (by with_unfolding_all exact rfl) ?_
  | refine wc_minL2 (by with_unfolding_all exact rfl) ?_
  | refine wc_abs ?_)
local macro_rules | `(tactic| walk_at "if") => `(tactic| first
  | refine iteP (by with_unfolding_all exact rfl) ?_
  | refine iteN (by with_unfolding_all exact Bool.false_ne_true) ?_
  | refine iteDP (by assumption) ?_
  | refine iteDN (by assumption) ?_
  | refine iteNP (by assumption) ?_
  | refine iteNN (by assumption) ?_
  | refine iteDN (by simp only [List.length_cons]; omega) ?_
  | refine iteP (by assumption) ?_
  | refine iteN (by assumption) ?_
  | refine iteP (by first | (simp [deq, deqs]; done) | fail) ?_
  | refine iteN (by first | (simp [deq, deqs]; done) | fail) ?_)
local macro_rules | `(tactic| walk_at "e") => `(tactic| first
  | ((with_reducible show WE _ _ _ (.Name _ _) _); first | walk_at "n" | walk_at "global" | walk_at "name")
  | ((with_reducible show WE _ _ _ (.Call (.Name _ _) _ _ _) _); walk_at "call")
  | ((with_reducible show WE _ _ _ (.Call (.Attribute _ _ _) _ _ _) _); walk_at "meth")
  | ((with_reducible show WM _ _ _ _ _ _); walk_at "wm")
  | ((with_reducible show And (StrW _) _); refine And.intro (Exists.intro _ rfl) ?_)
  | ((with_reducible show And (MethW _ _ _ _) _); refine And.intro (by with_unfolding_all first | exact Exists.intro _ (Exists.intro _ (And.intro Ob.im (by decide))) | exact Exists.intro _ (Exists.intro _ (And.intro (Ob.ce (by assumption)) (by decide))) | exact Exists.intro _ (Exists.intro _ (And.intro (Ob.ce cel_0) (by decide))) | exact Exists.intro _ (Exists.intro _ (And.intro (Ob.ce rfl) (by decide)))) ?_)
  | ((with_reducible show And (LstW _ _) _); refine And.intro (Exists.intro _ (by with_unfolding_all first | exact Sn.lst (by with_unfolding_all first | assumption | exact cel_s (by assumption) | exact cel_0 | exact cel_1) | constructor)) ?_)
  | ((with_reducible show WE _ _ _ (.ListComp _ _ _ _) _); walk_at "lc")
  | ((with_reducible show WE _ _ _ (.Attribute _ _ _) _); walk_at "fld")
  | ((with_reducible show WE _ _ _ _ _); walk_at "expr")
  | ((with_reducible show WT _ _ _ _ _); with_reducible first
     | refine wt_cmp (hm := by with_unfolding_all first | exact nomark _ | exact rfl) ?_
     | refine wt_not ?_
     | refine wt_and ?_
     | refine wt_or ?_
     | refine wt_val (he := by with_unfolding_all (intro _; exact rfl)) ?_)
  | ((with_reducible show WW _ _ _ _ _); with_reducible first
     | refine ww_and ?_
     | refine ww_or ?_
     | refine ww_and1 ?_
     | refine ww_or1 ?_)
  | ((with_reducible show WA _ _ _ _ _); with_reducible first
     | refine wa_nil ?_
     | refine wa_star (hs := by with_unfolding_all exact rfl) ?_
     | refine wa_cons (hs := by with_unfolding_all exact rfl) ?_)
  | ((with_reducible show WO _ _ _ _ _ _); walk_at "bin")
  | ((with_reducible show WSet _ _ _ _ _ _); walk_at "put")
  | ((with_reducible show WSs _ _ _ _ _ _); with_reducible first
     | refine wss_one ?_
     | refine wss_cons ?_
     | refine wss_nil ?_)
  | ((with_reducible show WS _ _ _ _ (.Assign [.Name _ _] (.ListComp _ _ _ _) _) _); walk_at "lset")
  | ((with_reducible show WS _ _ _ _ (.Assign [.Name _ _] (.List [] _) _) _); walk_at "set"; refine we_lstC ?_)
  | ((with_reducible show WS _ _ _ _ (.Assign [.Name _ _] _ _) _); walk_at "set")
  | ((with_reducible show WS _ _ _ _ (.Assign [.Tuple _ _ _] _ _) _); walk_at "par")
  | ((with_reducible show WS _ _ _ _ (.For _ _ _ _ _) _); walk_at "for")
  | ((with_reducible show WS _ _ _ _ (.AugAssign (.Name _ _) _ _ _) _); walk_at "aug")
  | ((with_reducible show WS _ _ _ _ (.Assign [.Attribute _ _ _] (.List [] _) _) _); walk_at "fset"; refine we_lstC ?_)
  | ((with_reducible show WS _ _ _ _ (.Assign [.Attribute _ _ _] _ _) _); walk_at "fset")
  | ((with_reducible show WI _ _ _ _ (.Call _ _ _ _) _); walk_at "wi")
  | ((with_reducible show WS _ _ _ _ (.Raise _ _ _) _); walk_at "raise")
  | ((with_reducible show WS _ _ _ _ _ _); walk_at "stmt")
  | ((with_reducible show WU _ _ _ _ _); with_reducible refine wu_neg ?_)
  | ((with_reducible show WIx _ _ _ _ _); walk_at "ix")
  | ((with_reducible show WC _ _ _ _ _); walk_at "fun")
  | ((with_reducible show WPo _ _ _ none _); with_reducible refine wpo_none ?_)
  | ((with_reducible show WPo _ _ _ (some _) _); with_reducible refine wpo_some ?_)
  | ((with_reducible show WSl _ _ _ _ _ _); with_reducible first
     | refine wsl_tup ?_
     | refine wsl_lst (by with_unfolding_all first | exact Sn.lst (by with_unfolding_all first | assumption | exact cel_s (by assumption) | exact cel_0 | exact cel_1) | constructor) ?_)
  | ((with_reducible show ite _ _ _); walk_at "if")
  | ((with_reducible show Exists _); with_reducible first
    | refine Exists.intro _ (And.intro rfl ?_)
    | refine Exists.intro _ (And.intro (by with_unfolding_all exact rfl) (And.intro (by with_unfolding_all first | exact Nat.le_of_ble_eq_true rfl | decide) ?_))
    | refine Exists.intro _ (And.intro (by with_unfolding_all exact rfl) ?_)
    | refine Exists.intro _ (And.intro (by with_unfolding_all first | exact Exists.intro _ (Exists.intro _ (And.intro Ob.im rfl)) | exact Exists.intro _ (Exists.intro _ (And.intro (Ob.ce (by assumption)) rfl)) | exact Exists.intro _ (Exists.intro _ (And.intro (Ob.ce cel_0) rfl))) ?_))
  | ((with_reducible show And (@LE.le Int _ _ _) (And (@LT.lt Int _ _ _) _)); refine And.intro (by omega) (And.intro (by omega) ?_))
  | ((with_reducible show And (And (@LE.le Int _ _ _) _) _); refine And.intro (by omega) ?_)
  | ((with_reducible show And (@Eq Nat _ _) _); refine And.intro (by with_unfolding_all exact rfl) ?_)
  | ((with_reducible show And _ _); refine And.intro (by with_unfolding_all first | exact Nat.le_of_ble_eq_true rfl | decide) ?_)
  | (with_reducible refine rtok_same ?_)
  | assumption)
local macro_rules | `(tactic| walk_at "meth") => `(tactic| first
  | ((with_reducible show WE _ _ _ (.Call (.Attribute _ (Str.ofString "join") _) [_] [] _) _); with_reducible refine we_sm F.slot_str_join F.type_str_join (by with_unfolding_all exact rfl) (by with_unfolding_all exact rfl) (by with_unfolding_all exact rfl) (by with_unfolding_all exact rfl) ?_)
  | ((with_reducible show WE _ _ _ (.Call (.Attribute _ (Str.ofString "split") _) [_] [] _) _); with_reducible refine we_sm F.slot_str_split F.type_str_split (by with_unfolding_all exact rfl) (by with_unfolding_all exact rfl) (by with_unfolding_all exact rfl) (by with_unfolding_all exact rfl) ?_)
  | ((with_reducible show WE _ _ _ (.Call (.Attribute _ (Str.ofString "append") _) [_] [] _) _); with_reducible refine we_lm F.slot_list_append (by with_unfolding_all exact rfl) (by with_unfolding_all exact rfl) (by with_unfolding_all exact rfl) (by with_unfolding_all exact rfl) (by with_unfolding_all exact rfl) (by with_unfolding_all exact rfl) ?_)
  | ((with_reducible show WE _ _ _ (.Call (.Attribute _ (Str.ofString "extend") _) [_] [] _) _); with_reducible refine we_lm F.slot_list_extend (by with_unfolding_all exact rfl) (by with_unfolding_all exact rfl) (by with_unfolding_all exact rfl) (by with_unfolding_all exact rfl) (by with_unfolding_all exact rfl) (by with_unfolding_all exact rfl) ?_)
  | ((with_reducible show WE _ _ _ (.Call (.Attribute _ (Str.ofString "pop") _) [_] [] _) _); with_reducible refine we_lm F.slot_list_pop (by with_unfolding_all exact rfl) (by with_unfolding_all exact rfl) (by with_unfolding_all exact rfl) (by with_unfolding_all exact rfl) (by with_unfolding_all exact rfl) (by with_unfolding_all exact rfl) ?_)
  | ((with_reducible show WE _ _ _ (.Call (.Attribute _ (Str.ofString "pop") _) [] [] _) _); with_reducible refine we_lm0 F.slot_list_pop (by with_unfolding_all exact rfl) (by with_unfolding_all exact rfl) (by with_unfolding_all exact rfl) ?_))
local macro_rules | `(tactic| walk_at "wm") => `(tactic| with_reducible first
  | refine wm_appendE (by with_unfolding_all first | assumption | exact cel_s (by assumption) | exact cel_0 | exact cel_1) (by with_unfolding_all first | assumption | omega) (by with_unfolding_all first | exact List.set_set .. | exact set_0 | exact set_1 | exact rfl) ?_
  | refine wm_popAtE (by with_unfolding_all first | assumption | exact cel_s (by assumption) | exact cel_0 | exact cel_1) (by decide) (by with_unfolding_all first | assumption | exact rfl) (by with_unfolding_all first | assumption | exact rfl) (by with_unfolding_all first | exact List.set_set .. | exact set_0 | exact set_1 | exact rfl) ?_
  | refine wm_popE (by with_unfolding_all first | assumption | exact cel_s (by assumption) | exact cel_0 | exact cel_1) (by with_unfolding_all first | assumption | exact rfl) (by with_unfolding_all first | exact List.set_set .. | exact set_0 | exact set_1 | exact rfl) ?_)
local macro_rules | `(tactic| walk_at "ix") => `(tactic| with_reducible first
  | refine wix_lst (by with_unfolding_all first | exact Sn.lst (by with_unfolding_all first | assumption | exact cel_s (by assumption) | exact cel_0 | exact cel_1) | constructor) (by with_unfolding_all first | exact rfl | exact atI_0 | exact atI_1 | assumption) ?_
  | refine wix_tup (h := by with_unfolding_all first | exact rfl | exact atI_0 | exact atI_1 | assumption) ?_
  | refine wix_dic (by with_unfolding_all exact L2.hu_of (by assumption)) (by with_unfolding_all first | exact Sn.dic (by assumption) | exact Sn.dic cel_0 | exact Sn.dic cel_1 | constructor) (by with_unfolding_all exact rfl) (by with_unfolding_all assumption) ?_)
local macro_rules | `(tactic| walk_at "p") => `(tactic| first
  | walk_at "e"
  | (dsimp only))
local macro_rules | `(tactic| walk_at "w") => `(tactic| repeat walk_at "p")
local macro_rules | `(tactic| walk_at "call") => `(tactic| ((with_reducible show WE _ _ _ (.Call (.Name (Str.ofString "len") _) _ _ _) _); with_reducible refine we_callBF (Tx.n_len (by assumption)) b_len (by decide) (by with_unfolding_all exact rfl) (by with_unfolding_all exact rfl) (by with_unfolding_all exact rfl) (by with_unfolding_all exact rfl) (by with_unfolding_all exact rfl) ?_))
local macro_rules | `(tactic| walk_at "call") => `(tactic| ((with_reducible show WE _ _ _ (.Call (.Name (Str.ofString "sum") _) _ _ _) _); with_reducible refine we_callBF (Tx.n_sum (by assumption)) b_sum (by decide) (by with_unfolding_all exact rfl) (by with_unfolding_all exact rfl) (by with_unfolding_all exact rfl) (by with_unfolding_all exact rfl) (by with_unfolding_all exact rfl) ?_))
local macro_rules | `(tactic| walk_at "call") => `(tactic| ((with_reducible show WE _ _ _ (.Call (.Name (Str.ofString "all") _) _ _ _) _); with_reducible refine we_callBF (Tx.n_all (by assumption)) b_all (by decide) (by with_unfolding_all exact rfl) (by with_unfolding_all exact rfl) (by with_unfolding_all exact rfl) (by with_unfolding_all exact rfl) (by with_unfolding_all exact rfl) ?_))
local macro_rules | `(tactic| walk_at "call") => `(tactic| ((with_reducible show WE _ _ _ (.Call (.Name (Str.ofString "any") _) _ _ _) _); with_reducible refine we_callBF (Tx.n_any (by assumption)) b_any (by decide) (by with_unfolding_all exact rfl) (by with_unfolding_all exact rfl) (by with_unfolding_all exact rfl) (by with_unfolding_all exact rfl) (by with_unfolding_all exact rfl) ?_))
local macro_rules | `(tactic| walk_at "call") => `(tactic| ((with_reducible show WE _ _ _ (.Call (.Name (Str.ofString "abs") _) _ _ _) _); with_reducible refine we_callBF (Tx.n_abs (by assumption)) b_abs (by decide) (by with_unfolding_all exact rfl) (by with_unfolding_all exact rfl) (by with_unfolding_all exact rfl) (by with_unfolding_all exact rfl) (by with_unfolding_all exact rfl) ?_))
local macro_rules | `(tactic| walk_at "call") => `(tactic| ((with_reducible show WE _ _ _ (.Call (.Name (Str.ofString "isinstance") _) _ _ _) _); with_reducible refine we_callBF (Tx.n_isinstance (by assumption)) b_isinstance (by decide) (by with_unfolding_all exact rfl) (by with_unfolding_all exact rfl) (by with_unfolding_all exact rfl) (by with_unfolding_all exact rfl) (by with_unfolding_all exact rfl) ?_))
local macro_rules | `(tactic| walk_at "call") => `(tactic| ((with_reducible show WE _ _ _ (.Call (.Name (Str.ofString "sorted") _) _ _ _) _); with_reducible refine we_callBF (Tx.n_sorted (by assumption)) b_sorted (by decide) (by with_unfolding_all exact rfl) (by with_unfolding_all exact rfl) (by with_unfolding_all exact rfl) (by with_unfolding_all exact rfl) (by with_unfolding_all exact rfl) ?_))
local macro_rules | `(tactic| walk_at "wi") => `(tactic| ((with_reducible show WI _ _ _ _ (.Call (.Name (Str.ofString "range") _) [_] _ _) _); with_reducible refine wi_range1 (hs := (by with_unfolding_all exact rfl)) (by with_unfolding_all exact rfl) (by with_unfolding_all exact (Tx.n_range (by assumption))) ?_))
local macro_rules | `(tactic| walk_at "wi") => `(tactic| ((with_reducible show WI _ _ _ _ (.Call (.Name (Str.ofString "range") _) [_, _] _ _) _); with_reducible refine wi_rangeW (by with_unfolding_all exact rfl) (by with_unfolding_all exact (Tx.n_range (by assumption))) (by with_unfolding_all exact rfl) (by with_unfolding_all exact rfl) ?_))
local macro_rules | `(tactic| walk_at "call") => `(tactic| ((with_reducible show WE _ _ _ (.Call (.Name (Str.ofString "range") _) _ _ _) _); with_reducible refine we_callTyF (Tx.n_range (by assumption)) b_range (by decide) (by with_unfolding_all exact rfl) (by with_unfolding_all exact rfl) (by with_unfolding_all exact rfl) (by with_unfolding_all exact rfl) (by with_unfolding_all exact rfl) ?_))
local macro_rules | `(tactic| walk_at "global") => `(tactic| ((with_reducible show WE _ _ _ (.Name (Str.ofString "range") _) _); with_reducible refine we_tyF (Tx.n_range (by assumption)) b_range (by decide) (by with_unfolding_all exact rfl) (by with_unfolding_all exact rfl) (by with_unfolding_all exact rfl) ?_))
local macro_rules | `(tactic| walk_at "call") => `(tactic| ((with_reducible show WE _ _ _ (.Call (.Name (Str.ofString "tuple") _) _ _ _) _); with_reducible refine we_callTyF (Tx.n_tuple (by assumption)) b_tuple (by decide) (by with_unfolding_all exact rfl) (by with_unfolding_all exact rfl) (by with_unfolding_all exact rfl) (by with_unfolding_all exact rfl) (by with_unfolding_all exact rfl) ?_))
local macro_rules | `(tactic| walk_at "global") => `(tactic| ((with_reducible show WE _ _ _ (.Name (Str.ofString "tuple") _) _); with_reducible refine we_tyF (Tx.n_tuple (by assumption)) b_tuple (by decide) (by with_unfolding_all exact rfl) (by with_unfolding_all exact rfl) (by with_unfolding_all exact rfl) ?_))
local macro_rules | `(tactic| walk_at "call") => `(tactic| ((with_reducible show WE _ _ _ (.Call (.Name (Str.ofString "list") _) _ _ _) _); with_reducible refine we_callTyF (Tx.n_list (by assumption)) b_list (by decide) (by with_unfolding_all exact rfl) (by with_unfolding_all exact rfl) (by with_unfolding_all exact rfl) (by with_unfolding_all exact rfl) (by with_unfolding_all exact rfl) ?_))
local macro_rules | `(tactic| walk_at "global") => `(tactic| ((with_reducible show WE _ _ _ (.Name (Str.ofString "list") _) _); with_reducible refine we_tyF (Tx.n_list (by assumption)) b_list (by decide) (by with_unfolding_all exact rfl) (by with_unfolding_all exact rfl) (by with_unfolding_all exact rfl) ?_))
local macro_rules | `(tactic| walk_at "call") => `(tactic| ((with_reducible show WE _ _ _ (.Call (.Name (Str.ofString "int") _) _ _ _) _); with_reducible refine we_callTyF (Tx.n_int (by assumption)) b_int (by decide) (by with_unfolding_all exact rfl) (by with_unfolding_all exact rfl) (by with_unfolding_all exact rfl) (by with_unfolding_all exact rfl) (by with_unfolding_all exact rfl) ?_))
local macro_rules | `(tactic| walk_at "global") => `(tactic| ((with_reducible show WE _ _ _ (.Name (Str.ofString "int") _) _); with_reducible refine we_tyF (Tx.n_int (by assumption)) b_int (by decide) (by with_unfolding_all exact rfl) (by with_unfolding_all exact rfl) (by with_unfolding_all exact rfl) ?_))
local macro_rules | `(tactic| walk_at "call") => `(tactic| ((with_reducible show WE _ _ _ (.Call (.Name (Str.ofString "str") _) _ _ _) _); with_reducible refine we_callTyF (Tx.n_str (by assumption)) b_str (by decide) (by with_unfolding_all exact rfl) (by with_unfolding_all exact rfl) (by with_unfolding_all exact rfl) (by with_unfolding_all exact rfl) (by with_unfolding_all exact rfl) ?_))
local macro_rules | `(tactic| walk_at "global") => `(tactic| ((with_reducible show WE _ _ _ (.Name (Str.ofString "str") _) _); with_reducible refine we_tyF (Tx.n_str (by assumption)) b_str (by decide) (by with_unfolding_all exact rfl) (by with_unfolding_all exact rfl) (by with_unfolding_all exact rfl) ?_))
local macro_rules | `(tactic| walk_at "call") => `(tactic| ((with_reducible show WE _ _ _ (.Call (.Name (Str.ofString "bool") _) _ _ _) _); with_reducible refine we_callTyF (Tx.n_bool (by assumption)) b_bool (by decide) (by with_unfolding_all exact rfl) (by with_unfolding_all exact rfl) (by with_unfolding_all exact rfl) (by with_unfolding_all exact rfl) (by with_unfolding_all exact rfl) ?_))
local macro_rules | `(tactic| walk_at "global") => `(tactic| ((with_reducible show WE _ _ _ (.Name (Str.ofString "bool") _) _); with_reducible refine we_tyF (Tx.n_bool (by assumption)) b_bool (by decide) (by with_unfolding_all exact rfl) (by with_unfolding_all exact rfl) (by with_unfolding_all exact rfl) ?_))
local macro_rules | `(tactic| walk_at "wi") => `(tactic| ((with_reducible show WI _ _ _ _ (.Call (.Name (Str.ofString "enumerate") _) [_] _ _) _); with_reducible refine wi_enumT (by with_unfolding_all exact (Tx.n_enumerate (by assumption))) (by with_unfolding_all exact rfl) (by with_unfolding_all exact rfl) ?_))
local macro_rules | `(tactic| walk_at "wi") => `(tactic| ((with_reducible show WI _ _ _ _ (.Call (.Name (Str.ofString "enumerate") _) [.Subscript _ (.Slice ..) _] _ _) _); with_reducible refine wi_enumL (by with_unfolding_all exact (Tx.n_enumerate (by assumption))) (by with_unfolding_all exact rfl) (by with_unfolding_all exact rfl) ?_))
local macro_rules | `(tactic| walk_at "call") => `(tactic| ((with_reducible show WE _ _ _ (.Call (.Name (Str.ofString "enumerate") _) _ _ _) _); with_reducible refine we_callTyF (Tx.n_enumerate (by assumption)) b_enumerate (by decide) (by with_unfolding_all exact rfl) (by with_unfolding_all exact rfl) (by with_unfolding_all exact rfl) (by with_unfolding_all exact rfl) (by with_unfolding_all exact rfl) ?_))
local macro_rules | `(tactic| walk_at "global") => `(tactic| ((with_reducible show WE _ _ _ (.Name (Str.ofString "enumerate") _) _); with_reducible refine we_tyF (Tx.n_enumerate (by assumption)) b_enumerate (by decide) (by with_unfolding_all exact rfl) (by with_unfolding_all exact rfl) (by with_unfolding_all exact rfl) ?_))
local macro_rules | `(tactic| walk_at "wi") => `(tactic| ((with_reducible show WI _ _ _ _ (.Call (.Name (Str.ofString "zip") _) [_, _] _ _) _); with_reducible refine wi_zip (by with_unfolding_all exact (Tx.n_zip (by assumption))) (by with_unfolding_all exact rfl) (by with_unfolding_all exact rfl) (by with_unfolding_all exact rfl) (by with_unfolding_all exact rfl) ?_))
local macro_rules | `(tactic| walk_at "call") => `(tactic| ((with_reducible show WE _ _ _ (.Call (.Name (Str.ofString "zip") _) _ _ _) _); with_reducible refine we_callTyF (Tx.n_zip (by assumption)) b_zip (by decide) (by with_unfolding_all exact rfl) (by with_unfolding_all exact rfl) (by with_unfolding_all exact rfl) (by with_unfolding_all exact rfl) (by with_unfolding_all exact rfl) ?_))
local macro_rules | `(tactic| walk_at "global") => `(tactic| ((with_reducible show WE _ _ _ (.Name (Str.ofString "zip") _) _); with_reducible refine we_tyF (Tx.n_zip (by assumption)) b_zip (by decide) (by with_unfolding_all exact rfl) (by with_unfolding_all exact rfl) (by with_unfolding_all exact rfl) ?_))
local macro_rules | `(tactic| walk_at "call") => `(tactic| ((with_reducible show WE _ _ _ (.Call (.Name (Str.ofString "list") _) [.Call (.Name (Str.ofString "range") _) [_] _ _] _ _) _); with_reducible refine we_listRg1 (by with_unfolding_all exact Tx.n_list (by assumption)) (by with_unfolding_all exact Tx.n_range (by assumption)) (by with_unfolding_all exact rfl) (by with_unfolding_all exact rfl) (by with_unfolding_all exact rfl) (by with_unfolding_all exact rfl) (by with_unfolding_all exact rfl) ?_))
local macro_rules | `(tactic| walk_at "call") => `(tactic| ((with_reducible show WE _ _ _ (.Call (.Name (Str.ofString "list") _) [.Call (.Name (Str.ofString "zip") _) [_, _] _ _] _ _) _); with_reducible refine we_listZip (by with_unfolding_all exact rfl) (by with_unfolding_all exact Tx.n_list (by assumption)) (by with_unfolding_all exact Tx.n_zip (by assumption)) (by with_unfolding_all exact rfl) (by with_unfolding_all exact rfl) (by with_unfolding_all exact rfl) (by with_unfolding_all exact rfl) (by with_unfolding_all exact rfl) (by with_unfolding_all exact rfl) ?_))
local macro_rules | `(tactic| walk_at "meth") => `(tactic| ((with_reducible show WE _ _ _ (.Call (.Attribute _ (Str.ofString "setdefault") _) [_, _] _ _) _); with_reducible refine we_bset (by with_unfolding_all exact ⟨rfl, rfl, rfl, rfl⟩) ?_))
local macro_rules | `(tactic| walk_at "meth") => `(tactic| ((with_reducible show WE _ _ _ (.Call (.Attribute _ (Str.ofString "get") _) [_, _] _ _) _); with_reducible refine we_bget (by with_unfolding_all exact ⟨rfl, rfl, rfl, rfl⟩) ?_))
local macro_rules | `(tactic| walk_at "call") => `(tactic| ((with_reducible show WE _ _ _ (.Call (.Name (Str.ofString "sorted") _) [_] [⟨_, .Name (Str.ofString "sum") _, _⟩] _) _); with_reducible refine we_sortSum (by with_unfolding_all exact Tx.n_sorted (by assumption)) (by with_unfolding_all exact Tx.n_sum (by assumption)) (by with_unfolding_all exact rfl) (by with_unfolding_all exact rfl) (by with_unfolding_all exact rfl) (by with_unfolding_all exact rfl) (by with_unfolding_all exact rfl) ?_))
local macro_rules | `(tactic| walk_at "wi") => `(tactic| ((with_reducible show WI _ _ _ _ (.Call (.Name (Str.ofString "enumerate") _) [.Call (.Name (Str.ofString "zip") _) [_, _] _ _] _ _) _); with_reducible refine wi_enumZ (by with_unfolding_all exact (Tx.n_enumerate (by assumption))) (by with_unfolding_all exact (Tx.n_zip (by assumption))) (by with_unfolding_all exact rfl) (by with_unfolding_all exact rfl) (by with_unfolding_all exact rfl) (by with_unfolding_all exact rfl) (by with_unfolding_all exact rfl) (by with_unfolding_all exact rfl) ?_))
local macro_rules | `(tactic| walk_at "wi") => `(tactic| ((with_reducible show WI _ _ _ _ (.Call (.Attribute _ (Str.ofString "values") _) [] _ _) _); with_reducible refine wi_values (by with_unfolding_all exact rfl) (by with_unfolding_all exact rfl) ?_))
local macro_rules | `(tactic| walk_at "global") => `(tactic| ((with_reducible show WE _ _ _ (.Name (Str.ofString "GREATEST") _) _); with_reducible refine we_globI (Tx.i_GREATEST (by assumption)) (by with_unfolding_all exact rfl) (by with_unfolding_all exact rfl) (by with_unfolding_all exact rfl) ?_))
local macro_rules | `(tactic| walk_at "global") => `(tactic| ((with_reducible show WE _ _ _ (.Name (Str.ofString "FARTHEST") _) _); with_reducible refine we_globI (Tx.i_FARTHEST (by assumption)) (by with_unfolding_all exact rfl) (by with_unfolding_all exact rfl) (by with_unfolding_all exact rfl) ?_))
local macro_rules | `(tactic| walk_at "global") => `(tactic| ((with_reducible show WE _ _ _ (.Name (Str.ofString "MOST_DAY") _) _); with_reducible refine we_globI (Tx.i_MOST_DAY (by assumption)) (by with_unfolding_all exact rfl) (by with_unfolding_all exact rfl) (by with_unfolding_all exact rfl) ?_))
local macro_rules | `(tactic| walk_at "global") => `(tactic| ((with_reducible show WE _ _ _ (.Name (Str.ofString "FEW") _) _); with_reducible refine we_globI (Tx.i_FEW (by assumption)) (by with_unfolding_all exact rfl) (by with_unfolding_all exact rfl) (by with_unfolding_all exact rfl) ?_))
local macro_rules | `(tactic| walk_at "global") => `(tactic| ((with_reducible show WE _ _ _ (.Name (Str.ofString "ENOUGH") _) _); with_reducible refine we_globI (Tx.i_ENOUGH (by assumption)) (by with_unfolding_all exact rfl) (by with_unfolding_all exact rfl) (by with_unfolding_all exact rfl) ?_))
local macro_rules | `(tactic| walk_at "global") => `(tactic| ((with_reducible show WE _ _ _ (.Name (Str.ofString "MOST_RULES") _) _); with_reducible refine we_globI (Tx.i_MOST_RULES (by assumption)) (by with_unfolding_all exact rfl) (by with_unfolding_all exact rfl) (by with_unfolding_all exact rfl) ?_))
local macro_rules | `(tactic| walk_at "global") => `(tactic| ((with_reducible show WE _ _ _ (.Name (Str.ofString "ENDS") _) _); with_reducible refine we_globT (Tx.t_ENDS (by assumption)) (by with_unfolding_all exact rfl) (by with_unfolding_all exact rfl) (by with_unfolding_all exact rfl) (by with_unfolding_all exact rfl) (by with_unfolding_all exact rfl) ?_))
local macro_rules | `(tactic| walk_at "global") => `(tactic| ((with_reducible show WE _ _ _ (.Name (Str.ofString "TIMES") _) _); with_reducible refine we_globT (Tx.t_TIMES (by assumption)) (by with_unfolding_all exact rfl) (by with_unfolding_all exact rfl) (by with_unfolding_all exact rfl) (by with_unfolding_all exact rfl) (by with_unfolding_all exact rfl) ?_))
local macro_rules | `(tactic| walk_at "global") => `(tactic| ((with_reducible show WE _ _ _ (.Name (Str.ofString "BELLS") _) _); with_reducible refine we_globT (Tx.t_BELLS (by assumption)) (by with_unfolding_all exact rfl) (by with_unfolding_all exact rfl) (by with_unfolding_all exact rfl) (by with_unfolding_all exact rfl) (by with_unfolding_all exact rfl) ?_))
local macro_rules | `(tactic| walk_at "raise") => `(tactic| ((with_reducible show WS _ _ _ _ (.Raise (some (.Call (.Name (Str.ofString "BellError") _) _ _ _)) _ _) _); with_reducible refine ws_raise0F (Tx.e_BellError (by assumption)) (by with_unfolding_all exact rfl) (by with_unfolding_all exact rfl) (by with_unfolding_all exact rfl) (by with_unfolding_all exact rfl) (by with_unfolding_all exact rfl) ?_))
local macro_rules | `(tactic| walk_at "raise") => `(tactic| ((with_reducible show WS _ _ _ _ (.Raise (some (.Call (.Name (Str.ofString "BadLand") _) _ _ _)) _ _) _); with_reducible refine ws_raise0F (Tx.e_BadLand (by assumption)) (by with_unfolding_all exact rfl) (by with_unfolding_all exact rfl) (by with_unfolding_all exact rfl) (by with_unfolding_all exact rfl) (by with_unfolding_all exact rfl) ?_))
local macro_rules | `(tactic| walk_at "raise") => `(tactic| ((with_reducible show WS _ _ _ _ (.Raise (some (.Call (.Name (Str.ofString "BadMoment") _) _ _ _)) _ _) _); with_reducible refine ws_raise0F (Tx.e_BadMoment (by assumption)) (by with_unfolding_all exact rfl) (by with_unfolding_all exact rfl) (by with_unfolding_all exact rfl) (by with_unfolding_all exact rfl) (by with_unfolding_all exact rfl) ?_))
local macro_rules | `(tactic| walk_at "fset") => `(tactic| ((with_reducible show WS _ _ _ _ (.Assign [.Attribute _ (Str.ofString "rows") _] _ _) _); with_reducible refine ws_fldF (Tx.c_Clock (by assumption)) (Tx.na_Clock_rows (by assumption)) (by with_unfolding_all exact rfl) (by with_unfolding_all exact rfl) ?_))
local macro_rules | `(tactic| walk_at "fld") => `(tactic| ((with_reducible show WE _ _ _ (.Attribute _ (Str.ofString "rows") _) _); with_reducible refine we_fldF (Tx.c_Clock (by assumption)) (Tx.na_Clock_rows (by assumption)) (by with_unfolding_all exact rfl) (by with_unfolding_all exact rfl) ?_))
section
variable {P : Program} {w : World} {K : PySem.W.Frag} {mg : Str → Option Value} {base : Heap}
theorem nm_is_in_value : nmB N_is_in (defScope s_is_in) "value" 0 = true := by decide +kernel
theorem nm_is_in_some : nmB N_is_in (defScope s_is_in) "some" 1 = true := by decide +kernel
local macro_rules | `(tactic| walk_at "n") => `(tactic| first
  | ((with_reducible show WE _ _ _ (.Name (Str.ofString "value") _) _); with_reducible refine we_nm (by with_unfolding_all exact nm_is_in_value) (by with_unfolding_all exact rfl) ?_)
  | ((with_reducible show WE _ _ _ (.Name (Str.ofString "some") _) _); with_reducible refine we_nm (by with_unfolding_all exact nm_is_in_some) (by with_unfolding_all exact rfl) ?_))
/-- is_in -/
abbrev F_is_in (K : PySem.W.Frag) : FSp := fun ws c Q E => ∃ (d : D) (l : List D) (a : String), d.tyn = some a ∧ l.all D.flat = true ∧ ws = [.im d, .im (.tup l)] ∧ Q (.im (.bl (isInD d l))) c
theorem ok_is_in (T : Tx K mg) : HasFn P w K mg base 1 "is_in" P_is_in (F_is_in K) := by
  obtain ⟨f, fd, hm, Fu⟩ := T.f_is_in
  refine ⟨f, fd, hm, Fu.kp, fn_w Fu sc_is_in (fun ws c Q E => ?_) (fun cdv A outer s H E ws c Q Qx hr hF => ?_), Fu.binds fun _ _ _ _ _ _ us hl => match us, hl with | [_, _], _ => rfl⟩
  · rintro ⟨d, l, a, ha, hl, rfl, hq⟩; rfl
  obtain ⟨d, l, a, ha, hl, rfl, hq⟩ := hF
  have hnd : N_is_in.Nodup := sc_is_in.nd
  change WSs _ _ [_, _] _ _ _
  refine wss_one ?_
  cases d <;> first | (cases ha; done) | walk_at "w"
local macro_rules | `(tactic| walk_at "call") => `(tactic| ((with_reducible show WE _ _ _ (.Call (.Name (Str.ofString "is_in") _) _ _ _) _); with_reducible refine we_callF (ok_is_in (by assumption)) (by with_unfolding_all exact ⟨rfl, rfl, rfl, rfl, rfl⟩) (by with_unfolding_all exact L2.Room.mono (by assumption) (by decide)) (by with_unfolding_all exact rfl) (by with_unfolding_all exact rfl) (by with_unfolding_all exact rfl) (by with_unfolding_all exact rfl) ?_))
theorem nm_is_word_value : nmB N_is_word (defScope s_is_word) "value" 0 = true := by decide +kernel
theorem nm_is_word_some : nmB N_is_word (defScope s_is_word) "some" 1 = true := by decide +kernel
local macro_rules | `(tactic| walk_at "n") => `(tactic| first
  | ((with_reducible show WE _ _ _ (.Name (Str.ofString "value") _) _); with_reducible refine we_nm (by with_unfolding_all exact nm_is_word_value) (by with_unfolding_all exact rfl) ?_)
  | ((with_reducible show WE _ _ _ (.Name (Str.ofString "some") _) _); with_reducible refine we_nm (by with_unfolding_all exact nm_is_word_some) (by with_unfolding_all exact rfl) ?_))
/-- is_word -/
abbrev F_is_word (K : PySem.W.Frag) : FSp := fun ws c Q E => ∃ (d : D) (l : List D) (a : String), d.tyn = some a ∧ l.all D.flat = true ∧ ws = [.im d, .im (.tup l)] ∧ Q (.im (.bl (isWordD d l))) c
theorem ok_is_word (T : Tx K mg) : HasFn P w K mg base 1 "is_word" P_is_word (F_is_word K) := by
  obtain ⟨f, fd, hm, Fu⟩ := T.f_is_word
  refine ⟨f, fd, hm, Fu.kp, fn_w Fu sc_is_word (fun ws c Q E => ?_) (fun cdv A outer s H E ws c Q Qx hr hF => ?_), Fu.binds fun _ _ _ _ _ _ us hl => match us, hl with | [_, _], _ => rfl⟩
  · rintro ⟨d, l, a, ha, hl, rfl, hq⟩; rfl
  obtain ⟨d, l, a, ha, hl, rfl, hq⟩ := hF
  have hnd : N_is_word.Nodup := sc_is_word.nd
  change WSs _ _ [_, _] _ _ _
  refine wss_one ?_
  cases d <;> first | (cases ha; done) | walk_at "w"
local macro_rules | `(tactic| walk_at "call") => `(tactic| ((with_reducible show WE _ _ _ (.Call (.Name (Str.ofString "is_word") _) _ _ _) _); with_reducible refine we_callF (ok_is_word (by assumption)) (by with_unfolding_all exact ⟨rfl, rfl, rfl, rfl, rfl⟩) (by with_unfolding_all exact L2.Room.mono (by assumption) (by decide)) (by with_unfolding_all exact rfl) (by with_unfolding_all exact rfl) (by with_unfolding_all exact rfl) (by with_unfolding_all exact rfl) ?_))
theorem nm_is_taking_value : nmB N_is_taking (defScope s_is_taking) "value" 0 = true := by decide +kernel
theorem nm_is_taking_word : nmB N_is_taking (defScope s_is_taking) "word" 1 = true := by decide +kernel
local macro_rules | `(tactic| walk_at "n") => `(tactic| first
  | ((with_reducible show WE _ _ _ (.Name (Str.ofString "value") _) _); with_reducible refine we_nm (by with_unfolding_all exact nm_is_taking_value) (by with_unfolding_all exact rfl) ?_)
  | ((with_reducible show WE _ _ _ (.Name (Str.ofString "word") _) _); with_reducible refine we_nm (by with_unfolding_all exact nm_is_taking_word) (by with_unfolding_all exact rfl) ?_))
/-- is_taking -/
abbrev F_is_taking (K : PySem.W.Frag) : FSp := fun ws c Q E => ∃ (d : D) (x : Str), Pl 50 d ∧ ws = [.im d, .im (.str x)] ∧ Q (.im (.bl (isTakingD d x))) c
theorem ok_is_taking (T : Tx K mg) : HasFn P w K mg base 2 "is_taking" P_is_taking (F_is_taking K) := by
  obtain ⟨f, fd, hm, Fu⟩ := T.f_is_taking
  refine ⟨f, fd, hm, Fu.kp, fn_w Fu sc_is_taking (fun ws c Q E => ?_) (fun cdv A outer s H E ws c Q Qx hr hF => ?_), Fu.binds fun _ _ _ _ _ _ us hl => match us, hl with | [_, _], _ => rfl⟩
  · rintro ⟨d, x, hp, rfl, hq⟩; rfl
  obtain ⟨d, x, hp, rfl, hq⟩ := hF
  have hnd : N_is_taking.Nodup := sc_is_taking.nd
  change WSs _ _ [_, _] _ _ _
  refine wss_cons ?_
  cases d with
  | tup l =>
    have hlen : l.length ≤ 1000000 := Nat.le_trans hp.1 (by decide)
    cases l with
    | nil => walk_at "w"
    | cons y r => 
      cases y with
      | str z =>
        by_cases hz : z = ("all" : Str)
        · walk_at "w"
          exact q_bl hq (by simp only [isTakingD, if_pos hz, List.length_cons]; exact decide_eq_decide.mpr (by omega))
        · cases r with
          | nil => walk_at "w"; exact q_bl hq (by simp [isTakingD, hz])
          | cons e r =>
            cases r with
            | nil =>
              walk_at "w"
              refine L2.ite2 (fun h => ?_) (fun h => ?_)
              · walk_at "w"
                obtain ⟨a, ha⟩ := (hp.2 e (by simp)).tyn
                refine ⟨_, _, a, ha, rfl, rfl, ?_⟩
                walk_at "w"
                exact q_bl hq (by simp [isTakingD, hz, h, endsD])
              · walk_at "w"
                exact q_bl hq (by simp [isTakingD, hz, h])
            | cons e2 r => walk_at "w"; exact q_bl hq (by simp [isTakingD, hz])
      | non => walk_at "w"
      | bl b => walk_at "w"
      | int b => walk_at "w"
      | tup b => walk_at "w"
      | lst b => walk_at "w"
      | _ => exact (hp.2 _ List.mem_cons_self).elim
  | non => walk_at "w"
  | bl b => walk_at "w"
  | int b => walk_at "w"
  | str b => walk_at "w"
  | lst b => walk_at "w"
  | _ => exact hp.elim
local macro_rules | `(tactic| walk_at "call") => `(tactic| ((with_reducible show WE _ _ _ (.Call (.Name (Str.ofString "is_taking") _) _ _ _) _); with_reducible refine we_callF (ok_is_taking (by assumption)) (by with_unfolding_all exact ⟨rfl, rfl, rfl, rfl, rfl⟩) (by with_unfolding_all exact L2.Room.mono (by assumption) (by decide)) (by with_unfolding_all exact rfl) (by with_unfolding_all exact rfl) (by with_unfolding_all exact rfl) (by with_unfolding_all exact rfl) ?_))
theorem nm_is_strokes_value : nmB N_is_strokes (defScope s_is_strokes) "value" 0 = true := by decide +kernel
local macro_rules | `(tactic| walk_at "n") => `(tactic| first
  | ((with_reducible show WE _ _ _ (.Name (Str.ofString "value") _) _); with_reducible refine we_nm (by with_unfolding_all exact nm_is_strokes_value) (by with_unfolding_all exact rfl) ?_))
/-- is_strokes -/
abbrev F_is_strokes (K : PySem.W.Frag) : FSp := fun ws c Q E => ∃ d, Pl 50 d ∧ ws = [.im d] ∧ Q (.im (.bl (isStrokesD d))) c
theorem ok_is_strokes (T : Tx K mg) : HasFn P w K mg base 2 "is_strokes" P_is_strokes (F_is_strokes K) := by
  obtain ⟨f, fd, hm, Fu⟩ := T.f_is_strokes
  refine ⟨f, fd, hm, Fu.kp, fn_w Fu sc_is_strokes (fun ws c Q E => ?_) (fun cdv A outer s H E ws c Q Qx hr hF => ?_), Fu.binds fun _ _ _ _ _ _ us hl => match us, hl with | [_], _ => rfl⟩
  · rintro ⟨d, hp, rfl, hq⟩; rfl
  obtain ⟨d, hp, rfl, hq⟩ := hF
  have hnd : N_is_strokes.Nodup := sc_is_strokes.nd
  change WSs _ _ [_] _ _ _
  refine wss_cons ?_
  cases d with
  | tup l =>
    have hlen : l.length ≤ 1000000 := Nat.le_trans hp.1 (by decide)
    cases l with
    | nil => walk_at "w"
    | cons y r => 
      cases y with
      | str z =>
        by_cases hz : z = ("times" : Str)
        · cases r with
          | nil => walk_at "w"; exact q_bl hq (by simp [isStrokesD, hz])
          | cons e r =>
            cases r with
            | nil =>
              walk_at "w"
              obtain ⟨a, ha⟩ := (hp.2 e (by simp)).tyn
              refine ⟨_, _, a, ha, rfl, rfl, ?_⟩
              walk_at "w"
              exact q_bl hq (by simp [isStrokesD, hz, timesD])
            | cons e2 r => walk_at "w"; exact q_bl hq (by simp [isStrokesD, hz])
        · cases r with
          | nil => walk_at "w"; exact q_bl hq (by simp [isStrokesD, hz])
          | cons e r => walk_at "w"; exact q_bl hq (by simp [isStrokesD, hz])
      | non => walk_at "w"
      | bl b => walk_at "w"
      | int b => walk_at "w"
      | tup b => walk_at "w"
      | lst b => walk_at "w"
      | _ => exact (hp.2 _ List.mem_cons_self).elim
  | non => walk_at "w"
  | bl b => walk_at "w"
  | int b => walk_at "w"
  | str b => walk_at "w"
  | lst b => walk_at "w"
  | _ => exact hp.elim
local macro_rules | `(tactic| walk_at "call") => `(tactic| ((with_reducible show WE _ _ _ (.Call (.Name (Str.ofString "is_strokes") _) _ _ _) _); with_reducible refine we_callF (ok_is_strokes (by assumption)) (by with_unfolding_all exact ⟨rfl, rfl, rfl, rfl, rfl⟩) (by with_unfolding_all exact L2.Room.mono (by assumption) (by decide)) (by with_unfolding_all exact rfl) (by with_unfolding_all exact rfl) (by with_unfolding_all exact rfl) (by with_unfolding_all exact rfl) ?_))
theorem nm_is_rule_value : nmB N_is_rule (defScope s_is_rule) "value" 0 = true := by decide +kernel
local macro_rules | `(tactic| walk_at "n") => `(tactic| first
  | ((with_reducible show WE _ _ _ (.Name (Str.ofString "value") _) _); with_reducible refine we_nm (by with_unfolding_all exact nm_is_rule_value) (by with_unfolding_all exact rfl) ?_))
/-- is_rule -/
abbrev F_is_rule (K : PySem.W.Frag) : FSp := fun ws c Q E => ∃ d, Pl 51 d ∧ ws = [.im d] ∧ Q (.im (.bl (isRuleD d))) c
theorem ok_is_rule (T : Tx K mg) : HasFn P w K mg base 3 "is_rule" P_is_rule (F_is_rule K) := by
  obtain ⟨f, fd, hm, Fu⟩ := T.f_is_rule
  refine ⟨f, fd, hm, Fu.kp, fn_w Fu sc_is_rule (fun ws c Q E => ?_) (fun cdv A outer s H E ws c Q Qx hr hF => ?_), Fu.binds fun _ _ _ _ _ _ us hl => match us, hl with | [_], _ => rfl⟩
  · rintro ⟨d, hp, rfl, hq⟩; rfl
  obtain ⟨d, hp, rfl, hq⟩ := hF
  have hnd : N_is_rule.Nodup := sc_is_rule.nd
  change WSs _ _ [_] _ _ _
  refine wss_cons ?_
  cases d with
  | tup l =>
    have hlen : l.length ≤ 1000000 := Nat.le_trans hp.1 (by decide)
    by_cases h4 : l.length = 4
    · match l, h4, hp, hlen, hq with
      | [a, b, e, o], h4, hp, hlen, hq =>
        have ha := hp.2 a (by simp)
        have hb := hp.2 b (by simp)
        obtain ⟨te, he⟩ := (hp.2 e (by simp)).tyn
        have ho := hp.2 o (by simp)
        walk_at "w"
        refine ⟨a, _, ha, rfl, ?_⟩
        walk_at "w"
        refine L2.ite2 (fun hA => ?_) (fun hA => ?_)
        · walk_at "w"
          exact q_bl hq (by simp only [isRuleD]; rw [Bool.not_eq_true'] at hA; rw [hA]; rfl)
        · rw [Bool.not_eq_true', Bool.not_eq_false] at hA
          walk_at "w"
          refine ⟨b, _, hb, rfl, ?_⟩
          walk_at "w"
          refine L2.ite2 (fun hB => ?_) (fun hB => ?_)
          · walk_at "w"
            exact q_bl hq (by simp only [isRuleD]; rw [Bool.not_eq_true'] at hB; rw [hB, Bool.and_false]; rfl)
          · rw [Bool.not_eq_true', Bool.not_eq_false] at hB
            walk_at "w"
            refine ⟨e, _, te, he, rfl, rfl, ?_⟩
            walk_at "w"
            refine L2.ite2 (fun hC => ?_) (fun hC => ?_)
            · walk_at "w"
              refine ⟨o, ho, rfl, ?_⟩
              walk_at "w"
              exact q_bl hq (by simp only [isRuleD]; rw [hA, hB, show isWordD e bellsD = true from hC]; rfl)
            · walk_at "w"
              exact q_bl hq (by simp only [isRuleD]; rw [hA, hB, show isWordD e bellsD = false from Bool.eq_false_iff.mpr hC]; rfl)
    · have h4' : ¬ (l.length : Int) = 4 := by omega
      walk_at "w"
      refine q_bl hq ?_
      unfold isRuleD
      split
      · rename_i h; cases h; exact absurd rfl h4
      · rfl
  | non => walk_at "w"
  | bl b => walk_at "w"
  | int b => walk_at "w"
  | str b => walk_at "w"
  | lst b => walk_at "w"
  | _ => exact hp.elim
local macro_rules | `(tactic| walk_at "call") => `(tactic| ((with_reducible show WE _ _ _ (.Call (.Name (Str.ofString "is_rule") _) _ _ _) _); with_reducible refine we_callF (ok_is_rule (by assumption)) (by with_unfolding_all exact ⟨rfl, rfl, rfl, rfl, rfl⟩) (by with_unfolding_all exact L2.Room.mono (by assumption) (by decide)) (by with_unfolding_all exact rfl) (by with_unfolding_all exact rfl) (by with_unfolding_all exact rfl) (by with_unfolding_all exact rfl) ?_))
theorem nm_number_of_often : nmB N_number_of (defScope s_number_of) "often" 0 = true := by decide +kernel
theorem nm_number_of_hour : nmB N_number_of (defScope s_number_of) "hour" 1 = true := by decide +kernel
theorem nm_number_of_part : nmB N_number_of (defScope s_number_of) "part" 2 = true := by decide +kernel
local macro_rules | `(tactic| walk_at "n") => `(tactic| first
  | ((with_reducible show WE _ _ _ (.Name (Str.ofString "often") _) _); with_reducible refine we_nm (by with_unfolding_all exact nm_number_of_often) (by with_unfolding_all exact rfl) ?_)
  | ((with_reducible show WE _ _ _ (.Name (Str.ofString "hour") _) _); with_reducible refine we_nm (by with_unfolding_all exact nm_number_of_hour) (by with_unfolding_all exact rfl) ?_)
  | ((with_reducible show WE _ _ _ (.Name (Str.ofString "part") _) _); with_reducible refine we_nm (by with_unfolding_all exact nm_number_of_part) (by with_unfolding_all exact rfl) ?_))
/-- number_of -/
abbrev F_number_of (K : PySem.W.Frag) : FSp := fun ws c Q E => ∃ (o : Of) (h p : Int), ws = [.im o.d, .im (.int h), .im (.int p)] ∧ Q (.im (.int (o.num h p))) c
theorem ok_number_of (T : Tx K mg) : HasFn P w K mg base 1 "number_of" P_number_of (F_number_of K) := by
  obtain ⟨f, fd, hm, Fu⟩ := T.f_number_of
  refine ⟨f, fd, hm, Fu.kp, fn_w Fu sc_number_of (fun ws c Q E => ?_) (fun cdv A outer s H E ws c Q Qx hr hF => ?_), Fu.binds fun _ _ _ _ _ _ us hl => match us, hl with | [_, _, _], _ => rfl⟩
  · rintro ⟨o, h, p, rfl, hq⟩; rfl
  obtain ⟨o, h, p, rfl, hq⟩ := hF
  have hnd : N_number_of.Nodup := sc_number_of.nd
  change WSs _ _ [_, _, _] _ _ _
  refine wss_cons ?_
  cases o <;> dsimp only [Of.d] <;> walk_at "w"
local macro_rules | `(tactic| walk_at "call") => `(tactic| ((with_reducible show WE _ _ _ (.Call (.Name (Str.ofString "number_of") _) _ _ _) _); with_reducible refine we_callF (ok_number_of (by assumption)) (by with_unfolding_all exact ⟨rfl, rfl, rfl, rfl, rfl⟩) (by with_unfolding_all exact L2.Room.mono (by assumption) (by decide)) (by with_unfolding_all exact rfl) (by with_unfolding_all exact rfl) (by with_unfolding_all exact rfl) (by with_unfolding_all exact rfl) ?_))
theorem nm_takes_taking : nmB N_takes (defScope s_takes) "taking" 0 = true := by decide +kernel
theorem nm_takes_place : nmB N_takes (defScope s_takes) "place" 1 = true := by decide +kernel
theorem nm_takes_many : nmB N_takes (defScope s_takes) "many" 2 = true := by decide +kernel
local macro_rules | `(tactic| walk_at "n") => `(tactic| first
  | ((with_reducible show WE _ _ _ (.Name (Str.ofString "taking") _) _); with_reducible refine we_nm (by with_unfolding_all exact nm_takes_taking) (by with_unfolding_all exact rfl) ?_)
  | ((with_reducible show WE _ _ _ (.Name (Str.ofString "place") _) _); with_reducible refine we_nm (by with_unfolding_all exact nm_takes_place) (by with_unfolding_all exact rfl) ?_)
  | ((with_reducible show WE _ _ _ (.Name (Str.ofString "many") _) _); with_reducible refine we_nm (by with_unfolding_all exact nm_takes_many) (by with_unfolding_all exact rfl) ?_))
/-- takes -/
abbrev F_takes (K : PySem.W.Frag) : FSp := fun ws c Q E => ∃ (t : Tk) (x : Str) (p m : Int), (x = "hour" ∨ x = "part") ∧ 0 < m ∧ ws = [.im (t.d x), .im (.int p), .im (.int m)] ∧ Q (.im (.bl (t.has p m))) c
theorem ok_takes (T : Tx K mg) : HasFn P w K mg base 1 "takes" P_takes (F_takes K) := by
  obtain ⟨f, fd, hm, Fu⟩ := T.f_takes
  refine ⟨f, fd, hm, Fu.kp, fn_w Fu sc_takes (fun ws c Q E => ?_) (fun cdv A outer s H E ws c Q Qx hr hF => ?_), Fu.binds fun _ _ _ _ _ _ us hl => match us, hl with | [_, _, _], _ => rfl⟩
  · rintro ⟨t, x, p, m, hx, h0, rfl, hq⟩; rfl
  obtain ⟨t, x, p, m, hx, h0, rfl, hq⟩ := hF
  have hnd : N_takes.Nodup := sc_takes.nd
  change WSs _ _ [_, _, _] _ _ _
  refine wss_cons ?_
  cases t with
  | all =>
    dsimp only [Tk.d]
    walk_at "w"
  | one n =>
    dsimp only [Tk.d]
    rcases hx with rfl | rfl
    · walk_at "w"
      exact q_bl hq (by rw [show (!decide (("hour" : Str) = "but")) = true from by decide]; simp [Tk.has, deq])
    · walk_at "w"
      exact q_bl hq (by rw [show (!decide (("part" : Str) = "but")) = true from by decide]; simp [Tk.has, deq])
  | but n =>
    dsimp only [Tk.d]
    walk_at "w"
    exact q_bl hq (by rw [show (!decide (("but" : Str) = "but")) = false from by decide]; simp [Tk.has, deq])
local macro_rules | `(tactic| walk_at "call") => `(tactic| ((with_reducible show WE _ _ _ (.Call (.Name (Str.ofString "takes") _) _ _ _) _); with_reducible refine we_callF (ok_takes (by assumption)) (by with_unfolding_all exact ⟨rfl, rfl, rfl, rfl, rfl⟩) (by with_unfolding_all exact L2.Room.mono (by assumption) (by decide)) (by with_unfolding_all exact rfl) (by with_unfolding_all exact rfl) (by with_unfolding_all exact rfl) (by with_unfolding_all exact rfl) ?_))
theorem nm_is_from_value : nmB N_is_from (defScope s_is_from) "value" 0 = true := by decide +kernel
theorem nm_is_from_least : nmB N_is_from (defScope s_is_from) "least" 1 = true := by decide +kernel
theorem nm_is_from_most : nmB N_is_from (defScope s_is_from) "most" 2 = true := by decide +kernel
local macro_rules | `(tactic| walk_at "n") => `(tactic| first
  | ((with_reducible show WE _ _ _ (.Name (Str.ofString "value") _) _); with_reducible refine we_nm (by with_unfolding_all exact nm_is_from_value) (by with_unfolding_all exact rfl) ?_)
  | ((with_reducible show WE _ _ _ (.Name (Str.ofString "least") _) _); with_reducible refine we_nm (by with_unfolding_all exact nm_is_from_least) (by with_unfolding_all exact rfl) ?_)
  | ((with_reducible show WE _ _ _ (.Name (Str.ofString "most") _) _); with_reducible refine we_nm (by with_unfolding_all exact nm_is_from_most) (by with_unfolding_all exact rfl) ?_))
/-- is_from -/
abbrev F_is_from (K : PySem.W.Frag) : FSp := fun ws c Q E => ∃ (d : D) (a : String) (i j : Int), d.tyn = some a ∧ ws = [.im d, .im (.int i), .im (.int j)] ∧ Q (.im (.bl (isFromD d i j))) c
theorem ok_is_from (T : Tx K mg) : HasFn P w K mg base 1 "is_from" P_is_from (F_is_from K) := by
  obtain ⟨f, fd, hm, Fu⟩ := T.f_is_from
  refine ⟨f, fd, hm, Fu.kp, fn_w Fu sc_is_from (fun ws c Q E => ?_) (fun cdv A outer s H E ws c Q Qx hr hF => ?_), Fu.binds fun _ _ _ _ _ _ us hl => match us, hl with | [_, _, _], _ => rfl⟩
  · rintro ⟨d, a, i, j, ha, rfl, hq⟩; rfl
  obtain ⟨d, a, i, j, ha, rfl, hq⟩ := hF
  have hnd : N_is_from.Nodup := sc_is_from.nd
  change WSs _ _ [_, _, _] _ _ _
  refine wss_one ?_
  cases d with
  | int n =>
    walk_at "w"
    refine L2.ite2 (fun h => ?_) (fun h => ?_)
    · walk_at "w"
      exact q_bl hq (by simp only [isFromD]; rw [h]; rfl)
    · walk_at "w"
      exact q_bl hq (by simp only [isFromD]; rw [Bool.eq_false_iff.mpr h]; rfl)
  | _ => first | (cases ha; done) | walk_at "w"
local macro_rules | `(tactic| walk_at "call") => `(tactic| ((with_reducible show WE _ _ _ (.Call (.Name (Str.ofString "is_from") _) _ _ _) _); with_reducible refine we_callF (ok_is_from (by assumption)) (by with_unfolding_all exact ⟨rfl, rfl, rfl, rfl, rfl⟩) (by with_unfolding_all exact L2.Room.mono (by assumption) (by decide)) (by with_unfolding_all exact rfl) (by with_unfolding_all exact rfl) (by with_unfolding_all exact rfl) (by with_unfolding_all exact rfl) ?_))
theorem nm_need_moment_value : nmB N_need_moment (defScope s_need_moment) "value" 0 = true := by decide +kernel
local macro_rules | `(tactic| walk_at "n") => `(tactic| first
  | ((with_reducible show WE _ _ _ (.Name (Str.ofString "value") _) _); with_reducible refine we_nm (by with_unfolding_all exact nm_need_moment_value) (by with_unfolding_all exact rfl) ?_))
/-- need_moment -/
abbrev F_need_moment (K : PySem.W.Frag) : FSp := fun ws c Q E => ∃ (d : D) (a : String), clo c.length c = true ∧ d.tyn = some a ∧ ws = [.im d] ∧ (isFromD d (-F64) F64 = true → Q (.im .non) c) ∧ (isFromD d (-F64) F64 = false → E ⟨He.ga K "BadMoment", [], []⟩ c)
theorem ok_need_moment (T : Tx K mg) : HasFn P w K mg base 2 "need_moment" P_need_moment (F_need_moment K) := by
  obtain ⟨f, fd, hm, Fu⟩ := T.f_need_moment
  refine ⟨f, fd, hm, Fu.kp, fn_w Fu sc_need_moment (fun ws c Q E => ?_) (fun cdv A outer s H E ws c Q Qx hr hF => ?_), Fu.binds fun _ _ _ _ _ _ us hl => match us, hl with | [_], _ => rfl⟩
  · rintro ⟨d, a, hc, ha, rfl, hq, he⟩; rfl
  obtain ⟨d, a, hc, ha, rfl, hq, he⟩ := hF
  have hnd : N_need_moment.Nodup := sc_need_moment.nd
  change WSs _ _ [_] _ _ _
  refine wss_one ?_
  walk_at "w"
  refine ⟨d, a, _, _, ha, rfl, ?_⟩
  walk_at "w"
  refine L2.ite2 (fun h => ?_) (fun h => ?_)
  · walk_at "w"
    rw [Bool.not_eq_true'] at h
    exact ⟨hc, by rw [List.take_length]; exact he h⟩
  · rw [Bool.not_eq_true', Bool.not_eq_false] at h
    walk_at "w"
    exact hq h
local macro_rules | `(tactic| walk_at "call") => `(tactic| ((with_reducible show WE _ _ _ (.Call (.Name (Str.ofString "need_moment") _) _ _ _) _); with_reducible refine we_callF (ok_need_moment (by assumption)) (by with_unfolding_all exact ⟨rfl, rfl, rfl, rfl, rfl⟩) (by with_unfolding_all exact L2.Room.mono (by assumption) (by decide)) (by with_unfolding_all exact rfl) (by with_unfolding_all exact rfl) (by with_unfolding_all exact rfl) (by with_unfolding_all exact rfl) ?_))
theorem nm_need_land_value : nmB N_need_land (defScope s_need_land) "value" 0 = true := by decide +kernel
local macro_rules | `(tactic| walk_at "n") => `(tactic| first
  | ((with_reducible show WE _ _ _ (.Name (Str.ofString "value") _) _); with_reducible refine we_nm (by with_unfolding_all exact nm_need_land_value) (by with_unfolding_all exact rfl) ?_))
local macro_rules | `(tactic| walk_at "lc") => `(tactic| first
  | ((with_reducible show WE _ _ _ (.ListComp _ [⟨.Name (Str.ofString "many") _, _, _, _⟩] _ _) _); with_reducible refine we_lc (own := [(("many" : Str), 1)]) (Tgt.nm 1) (by with_unfolding_all exact rfl) (by with_unfolding_all assumption) (by with_unfolding_all exact blkOk_by rfl) (by with_unfolding_all decide) (fun b => (by with_unfolding_all exact (pg_name (by with_unfolding_all assumption) (by with_unfolding_all exact rfl) (by with_unfolding_all first | exact Or.inl rfl | exact Or.inr rfl) (by with_unfolding_all first | exact .inl rfl | exact .inr rfl)))) ?_ (by with_unfolding_all (intro _; exact rfl))))
/-- need_land -/
abbrev F_need_land (K : PySem.W.Frag) : FSp := fun ws c Q E => ∃ (d : D), clo c.length c = true ∧ Pl 50 d ∧ ws = [.im d] ∧ (isLandD d G30 = true → Q (.im .non) c) ∧ (isLandD d G30 = false → E ⟨He.ga K "BadLand", [], []⟩ c)
theorem ok_need_land (T : Tx K mg) : HasFn P w K mg base 2 "need_land" P_need_land (F_need_land K) := by
  obtain ⟨f, fd, hm, Fu⟩ := T.f_need_land
  refine ⟨f, fd, hm, Fu.kp, fn_w Fu sc_need_land (fun ws c Q E => ?_) (fun cdv A outer s H E ws c Q Qx hr hF => ?_), Fu.binds fun _ _ _ _ _ _ us hl => match us, hl with | [_], _ => rfl⟩
  · rintro ⟨d, hc, hp, rfl, hq, he⟩; rfl
  obtain ⟨d, hc, hp, rfl, hq, he⟩ := hF
  have hnd : N_need_land.Nodup := sc_need_land.nd
  change WSs _ _ [_, _] _ _ _
  refine wss_one ?_
  cases d with
  | tup l =>
    have hlen : l.length ≤ 1000000 := Nat.le_trans hp.1 (by decide)
    by_cases h2 : l.length = 2
    · have h2' : (l.length : Int) = 2 := by omega
      match l, h2, hp, hlen, h2', hq, he with
      | [x, y], h2, hp, hlen, h2', hq, he =>
      obtain ⟨tx, hx⟩ := (hp.2 x (by simp)).tyn
      obtain ⟨ty, hy⟩ := (hp.2 y (by simp)).tyn
      walk_at "w"
      refine wi_tup ?_
      walk_at "w"
      refine lc_map (fun d => .bl (isFromD d 2 G30)) (Nat.le_of_ble_eq_true rfl) (fun i d hd => ⟨trivial, fun b => ?_⟩) ?_
      · walk_at "w"
        obtain ⟨a, ha⟩ : ∃ a, d.tyn = some a := (hp.2 d (List.mem_of_getElem? hd)).tyn
        refine ⟨d, a, _, _, ha, rfl, ?_⟩
        walk_at "w"
        exact ⟨rfl, rfl⟩
      · walk_at "w"
        refine wc_all (bs := [isFromD x 2 G30, isFromD y 2 G30]) rfl .im ?_
        have hA : [isFromD x 2 G30, isFromD y 2 G30].all id = isLandD (.tup [x, y]) G30 := by simp [isLandD]
        rw [hA]
        walk_at "w"
        refine L2.ite2 (fun h => ?_) (fun h => ?_)
        · walk_at "w"
          rw [Bool.not_eq_true'] at h
          exact ⟨hc, by rw [List.take_length]; exact he h⟩
        · rw [Bool.not_eq_true', Bool.not_eq_false] at h
          walk_at "w"
          exact hq h
    · have h2' : ¬ (l.length : Int) = 2 := by omega
      have hF : isLandD (.tup l) G30 = false := by
        unfold isLandD
        split
        · rename_i h; cases h; exact absurd rfl h2
        · rfl
      walk_at "w"; exact ⟨hc, by rw [List.take_length]; exact he hF⟩
  | non => walk_at "w"; exact ⟨hc, by rw [List.take_length]; exact he rfl⟩
  | bl b => walk_at "w"; exact ⟨hc, by rw [List.take_length]; exact he rfl⟩
  | int b => walk_at "w"; exact ⟨hc, by rw [List.take_length]; exact he rfl⟩
  | str b => walk_at "w"; exact ⟨hc, by rw [List.take_length]; exact he rfl⟩
  | lst b => walk_at "w"; exact ⟨hc, by rw [List.take_length]; exact he rfl⟩
  | _ => exact hp.elim
local macro_rules | `(tactic| walk_at "call") => `(tactic| ((with_reducible show WE _ _ _ (.Call (.Name (Str.ofString "need_land") _) _ _ _) _); with_reducible refine we_callF (ok_need_land (by assumption)) (by with_unfolding_all exact ⟨rfl, rfl, rfl, rfl, rfl⟩) (by with_unfolding_all exact L2.Room.mono (by assumption) (by decide)) (by with_unfolding_all exact rfl) (by with_unfolding_all exact rfl) (by with_unfolding_all exact rfl) (by with_unfolding_all exact rfl) ?_))
theorem nm_struck_rows : nmB N_struck (defScope s_struck) "rows" 0 = true := by decide +kernel
theorem nm_struck_land : nmB N_struck (defScope s_struck) "land" 1 = true := by decide +kernel
theorem nm_struck_hour : nmB N_struck (defScope s_struck) "hour" 2 = true := by decide +kernel
theorem nm_struck_part : nmB N_struck (defScope s_struck) "part" 3 = true := by decide +kernel
theorem nm_struck_found : nmB N_struck (defScope s_struck) "found" 4 = true := by decide +kernel
theorem st_struck_found : stB N_struck (defScope s_struck) "found" 4 = true := by decide +kernel
theorem nm_struck_hours : nmB N_struck (defScope s_struck) "hours" 5 = true := by decide +kernel
theorem st_struck_hours : stB N_struck (defScope s_struck) "hours" 5 = true := by decide +kernel
theorem nm_struck_parts : nmB N_struck (defScope s_struck) "parts" 6 = true := by decide +kernel
theorem st_struck_parts : stB N_struck (defScope s_struck) "parts" 6 = true := by decide +kernel
theorem nm_struck_bell : nmB N_struck (defScope s_struck) "bell" 7 = true := by decide +kernel
theorem st_struck_bell : stB N_struck (defScope s_struck) "bell" 7 = true := by decide +kernel
theorem nm_struck_often : nmB N_struck (defScope s_struck) "often" 8 = true := by decide +kernel
theorem st_struck_often : stB N_struck (defScope s_struck) "often" 8 = true := by decide +kernel
local macro_rules | `(tactic| walk_at "n") => `(tactic| first
  | ((with_reducible show WE _ _ _ (.Name (Str.ofString "rows") _) _); with_reducible refine we_nm (by with_unfolding_all exact nm_struck_rows) (by with_unfolding_all exact rfl) ?_)
  | ((with_reducible show WE _ _ _ (.Name (Str.ofString "land") _) _); with_reducible refine we_nm (by with_unfolding_all exact nm_struck_land) (by with_unfolding_all exact rfl) ?_)
  | ((with_reducible show WE _ _ _ (.Name (Str.ofString "hour") _) _); with_reducible refine we_nm (by with_unfolding_all exact nm_struck_hour) (by with_unfolding_all exact rfl) ?_)
  | ((with_reducible show WE _ _ _ (.Name (Str.ofString "part") _) _); with_reducible refine we_nm (by with_unfolding_all exact nm_struck_part) (by with_unfolding_all exact rfl) ?_)
  | ((with_reducible show WE _ _ _ (.Name (Str.ofString "found") _) _); with_reducible refine we_nm (by with_unfolding_all exact nm_struck_found) (by with_unfolding_all exact rfl) ?_)
  | ((with_reducible show WE _ _ _ (.Name (Str.ofString "hours") _) _); with_reducible refine we_nm (by with_unfolding_all exact nm_struck_hours) (by with_unfolding_all exact rfl) ?_)
  | ((with_reducible show WE _ _ _ (.Name (Str.ofString "parts") _) _); with_reducible refine we_nm (by with_unfolding_all exact nm_struck_parts) (by with_unfolding_all exact rfl) ?_)
  | ((with_reducible show WE _ _ _ (.Name (Str.ofString "bell") _) _); with_reducible refine we_nm (by with_unfolding_all exact nm_struck_bell) (by with_unfolding_all exact rfl) ?_)
  | ((with_reducible show WE _ _ _ (.Name (Str.ofString "often") _) _); with_reducible refine we_nm (by with_unfolding_all exact nm_struck_often) (by with_unfolding_all exact rfl) ?_))
local macro_rules | `(tactic| walk_at "set") => `(tactic| first
  | ((with_reducible show WS _ _ _ _ (.Assign [.Name (Str.ofString "found") _] _ _) _); with_reducible refine ws_st (by with_unfolding_all exact st_struck_found) (by with_unfolding_all assumption) (by with_unfolding_all exact rfl) (by with_unfolding_all exact rfl) ?_)
  | ((with_reducible show WS _ _ _ _ (.Assign [.Name (Str.ofString "hours") _] _ _) _); with_reducible refine ws_st (by with_unfolding_all exact st_struck_hours) (by with_unfolding_all assumption) (by with_unfolding_all exact rfl) (by with_unfolding_all exact rfl) ?_)
  | ((with_reducible show WS _ _ _ _ (.Assign [.Name (Str.ofString "parts") _] _ _) _); with_reducible refine ws_st (by with_unfolding_all exact st_struck_parts) (by with_unfolding_all assumption) (by with_unfolding_all exact rfl) (by with_unfolding_all exact rfl) ?_)
  | ((with_reducible show WS _ _ _ _ (.Assign [.Name (Str.ofString "bell") _] _ _) _); with_reducible refine ws_st (by with_unfolding_all exact st_struck_bell) (by with_unfolding_all assumption) (by with_unfolding_all exact rfl) (by with_unfolding_all exact rfl) ?_)
  | ((with_reducible show WS _ _ _ _ (.Assign [.Name (Str.ofString "often") _] _ _) _); with_reducible refine ws_st (by with_unfolding_all exact st_struck_often) (by with_unfolding_all assumption) (by with_unfolding_all exact rfl) (by with_unfolding_all exact rfl) ?_))
local macro_rules | `(tactic| walk_at "aug") => `(tactic| first
  | ((with_reducible show WS _ _ _ _ (.AugAssign (.Name (Str.ofString "found") _) _ _ _) _); with_reducible refine ws_ag (by with_unfolding_all exact st_struck_found) (by with_unfolding_all assumption) (by with_unfolding_all exact rfl) (by with_unfolding_all exact rfl) ?_)
  | ((with_reducible show WS _ _ _ _ (.AugAssign (.Name (Str.ofString "hours") _) _ _ _) _); with_reducible refine ws_ag (by with_unfolding_all exact st_struck_hours) (by with_unfolding_all assumption) (by with_unfolding_all exact rfl) (by with_unfolding_all exact rfl) ?_)
  | ((with_reducible show WS _ _ _ _ (.AugAssign (.Name (Str.ofString "parts") _) _ _ _) _); with_reducible refine ws_ag (by with_unfolding_all exact st_struck_parts) (by with_unfolding_all assumption) (by with_unfolding_all exact rfl) (by with_unfolding_all exact rfl) ?_)
  | ((with_reducible show WS _ _ _ _ (.AugAssign (.Name (Str.ofString "bell") _) _ _ _) _); with_reducible refine ws_ag (by with_unfolding_all exact st_struck_bell) (by with_unfolding_all assumption) (by with_unfolding_all exact rfl) (by with_unfolding_all exact rfl) ?_)
  | ((with_reducible show WS _ _ _ _ (.AugAssign (.Name (Str.ofString "often") _) _ _ _) _); with_reducible refine ws_ag (by with_unfolding_all exact st_struck_often) (by with_unfolding_all assumption) (by with_unfolding_all exact rfl) (by with_unfolding_all exact rfl) ?_))
local macro_rules | `(tactic| walk_at "for") => `(tactic| first
  | ((with_reducible show WS _ _ _ _ (.For (.Tuple [.Name (Str.ofString "hours") _, .Name (Str.ofString "parts") _, .Name (Str.ofString "bell") _, .Name (Str.ofString "often") _] _ _) _ _ _ _) _); with_reducible refine ws_forF (Tgt.tp [5, 6, 7, 8]) (by with_unfolding_all exact rfl) (by with_unfolding_all exact (pg_tup (by with_unfolding_all exact rfl) (pgs_cons (pg_name (by with_unfolding_all assumption) (by with_unfolding_all exact rfl) (by with_unfolding_all first | exact Or.inl rfl | exact Or.inr rfl) (by with_unfolding_all first | exact .inl rfl | exact .inr rfl)) (pgs_cons (pg_name (by with_unfolding_all assumption) (by with_unfolding_all exact rfl) (by with_unfolding_all first | exact Or.inl rfl | exact Or.inr rfl) (by with_unfolding_all first | exact .inl rfl | exact .inr rfl)) (pgs_cons (pg_name (by with_unfolding_all assumption) (by with_unfolding_all exact rfl) (by with_unfolding_all first | exact Or.inl rfl | exact Or.inr rfl) (by with_unfolding_all first | exact .inl rfl | exact .inr rfl)) (pgs_cons (pg_name (by with_unfolding_all assumption) (by with_unfolding_all exact rfl) (by with_unfolding_all first | exact Or.inl rfl | exact Or.inr rfl) (by with_unfolding_all first | exact .inl rfl | exact .inr rfl)) (pgs_nil) (by with_unfolding_all exact rfl)) (by with_unfolding_all exact rfl)) (by with_unfolding_all exact rfl)) (by with_unfolding_all exact rfl)) (by with_unfolding_all exact rfl) (by with_unfolding_all exact rfl))) (by with_unfolding_all (intro _; exact rfl)) ?_))
/-- struck -/
abbrev F_struck (K : PySem.W.Frag) : FSp := fun ws c Q E => ∃ (l : List Ru) (h p a b : Int), clo c.length c = true ∧ 0 < a ∧ 0 < b ∧ l.length ≤ 1000 ∧ ws = [.im (rusD l), .im (.tup [.int a, .int b]), .im (.int h), .im (.int p)] ∧ (Q (.im (struckD l a b h p)) c ∨ Q (.ce c.length) (c ++ [.dic (stK (struckL l a b h p)) (stV (struckL l a b h p))]))
theorem ok_struck (T : Tx K mg) : HasFn P w K mg base 2 "struck" P_struck (F_struck K) := by
  obtain ⟨f, fd, hm, Fu⟩ := T.f_struck
  refine ⟨f, fd, hm, Fu.kp, fn_w Fu sc_struck (fun ws c Q E => ?_) (fun cdv A outer s H E ws c Q Qx hr hF => ?_), Fu.binds fun _ _ _ _ _ _ us hl => match us, hl with | [_, _, _, _], _ => rfl⟩
  · rintro ⟨l, h, p, a, b, hc, h1, h2, hl, rfl, hq⟩; rfl
  obtain ⟨l, h, p, a, b, hc, h1, h2, hl, rfl, hq⟩ := hF
  have hnd : N_struck.Nodup := sc_struck.nd
  change WSs _ _ [_, _, _, _, _, _, _, _, _] _ _ _
  refine wss_cons ?_
  walk_at "w"
  refine we_dicC ?_
  walk_at "w"
  refine wi_tup ?_
  walk_at "w"
  refine forask (fun i ρ' c' => c' = c ++ [.dic (stK ((l.take i).foldl (stStep a b h p) [])) (stV ((l.take i).foldl (stStep a b h p) []))] ∧ ∃ x1 x2 x3 x4, ρ' = [some (.im (rusD l)), some (.im (.tup [.int a, .int b])), some (.im (.int h)), some (.im (.int p)), some (.ce c.length), x1, x2, x3, x4]) ⟨rfl, none, none, none, none, rfl⟩ (fun i d ρ' c' hd hP => ?_) (fun ρ' c' hP => ?_)
  · obtain ⟨rfl, x1, x2, x3, x4, rfl⟩ := hP
    rw [List.getElem?_map] at hd
    obtain ⟨r, hr1, rfl⟩ := Option.map_eq_some_iff.mp hd
    refine ⟨⟨_, rfl, rfl⟩, ?_⟩
    change WSs _ _ [_, _, _, _, _, _, _, _, _] _ _ _
    rw [take_succ_get hr1, List.foldl_append]
    generalize hacc : (l.take i).foldl (stStep a b h p) [] = acc
    walk_at "w"
    have hk : (stK acc).Nodup := by rw [← hacc]; exact st_nd _ _ _ _ _ _ List.nodup_nil
    have hz : (stK acc).length < 1000000 := by
      have := st_len (l.take i) [] a b h p
      rw [hacc] at this
      unfold stK; rw [List.length_map]; rw [List.length_take] at this; simp at this; omega
    have hat := atK_st r.low acc
    by_cases hm : acc.any (fun x => decide (x.1 = r.low)) = false
    · have hn : (!(atK (stK acc) (stV acc) (Sum.inr (bellS r.low))).isSome) = true := by
        rw [show (Sum.inr (bellS r.low) : Key) = bkey r.low from rfl, hat, List.find?_eq_none.mpr (by intro x hx; have := List.any_eq_false.mp hm x hx; simpa using this)]; rfl
      refine iteP hn ?_
      walk_at "w"
      refine ⟨r.h, _, _, _, .inl rfl, h1, rfl, ?_⟩
      walk_at "w"
      refine L2.ite2 (fun hA => ?_) (fun hA => ?_)
      · walk_at "w"
        refine ⟨r.p, _, _, _, .inr rfl, h2, rfl, ?_⟩
        walk_at "w"
        refine L2.ite2 (fun hB => ?_) (fun hB => ?_)
        · walk_at "w"
          refine ⟨?_, _, _, _, _, rfl⟩
          rw [List.foldl_cons, List.foldl_nil, stStep, if_pos ⟨hm, by unfold Ru.fit; rw [hA, hB]; rfl⟩]
          have := put_st r.low r.o acc hm
          unfold bkey at this
          rw [this]
        · walk_at "w"
          refine ⟨?_, _, _, _, _, rfl⟩
          rw [List.foldl_cons, List.foldl_nil, stStep, if_neg (fun z => hB (by have := z.2; unfold Ru.fit at this; rw [Bool.and_eq_true] at this; exact this.2))]
      · walk_at "w"
        refine ⟨?_, _, _, _, _, rfl⟩
        rw [List.foldl_cons, List.foldl_nil, stStep, if_neg (fun z => hA (by have := z.2; unfold Ru.fit at this; rw [Bool.and_eq_true] at this; exact this.1))]
    · have hn : (!(atK (stK acc) (stV acc) (Sum.inr (bellS r.low))).isSome) = false := by
        rw [show (Sum.inr (bellS r.low) : Key) = bkey r.low from rfl, hat]
        obtain ⟨x, hx1, hx2⟩ := List.any_eq_true.mp (show acc.any (fun x => decide (x.1 = r.low)) = true by rw [Bool.not_eq_false] at hm; exact hm)
        cases hf : acc.find? (fun x => decide (x.1 = r.low)) with
        | none => exact absurd hx2 (List.find?_eq_none.mp hf x hx1)
        | some y => rfl
      rw [hn]
      walk_at "w"
      refine ⟨?_, _, _, _, _, rfl⟩
      rw [List.foldl_cons, List.foldl_nil, stStep, if_neg (fun z => hm z.1)]
  · obtain ⟨rfl, x1, x2, x3, x4, rfl⟩ := hP
    walk_at "w"
    rw [List.length_map, List.take_length]
    rcases hq with hq | hq
    · refine RtOk.dic cel_0 ?_ (Nat.le_refl _) (clo_app hc)
      rw [take_app]
      exact hq
    · refine RtOk.newD cel_0 ?_ (Nat.le_refl _) (clo_app hc)
      rw [take_app]
      exact hq
local macro_rules | `(tactic| walk_at "call") => `(tactic| ((with_reducible show WE _ _ _ (.Call (.Name (Str.ofString "struck") _) _ _ _) _); with_reducible refine we_callF (ok_struck (by assumption)) (by with_unfolding_all exact ⟨rfl, rfl, rfl, rfl, rfl⟩) (by with_unfolding_all exact L2.Room.mono (by assumption) (by decide)) (by with_unfolding_all exact rfl) (by with_unfolding_all exact rfl) (by with_unfolding_all exact rfl) (by with_unfolding_all exact rfl) ?_))
theorem nm_sound_at_rows : nmB N_sound_at (defScope s_sound_at) "rows" 0 = true := by decide +kernel
theorem nm_sound_at_land : nmB N_sound_at (defScope s_sound_at) "land" 1 = true := by decide +kernel
theorem nm_sound_at_moment : nmB N_sound_at (defScope s_sound_at) "moment" 2 = true := by decide +kernel
theorem nm_sound_at_hour : nmB N_sound_at (defScope s_sound_at) "hour" 3 = true := by decide +kernel
theorem st_sound_at_hour : stB N_sound_at (defScope s_sound_at) "hour" 3 = true := by decide +kernel
theorem nm_sound_at_part : nmB N_sound_at (defScope s_sound_at) "part" 4 = true := by decide +kernel
theorem st_sound_at_part : stB N_sound_at (defScope s_sound_at) "part" 4 = true := by decide +kernel
theorem nm_sound_at_told : nmB N_sound_at (defScope s_sound_at) "told" 5 = true := by decide +kernel
theorem st_sound_at_told : stB N_sound_at (defScope s_sound_at) "told" 5 = true := by decide +kernel
local macro_rules | `(tactic| walk_at "n") => `(tactic| first
  | ((with_reducible show WE _ _ _ (.Name (Str.ofString "rows") _) _); with_reducible refine we_nm (by with_unfolding_all exact nm_sound_at_rows) (by with_unfolding_all exact rfl) ?_)
  | ((with_reducible show WE _ _ _ (.Name (Str.ofString "land") _) _); with_reducible refine we_nm (by with_unfolding_all exact nm_sound_at_land) (by with_unfolding_all exact rfl) ?_)
  | ((with_reducible show WE _ _ _ (.Name (Str.ofString "moment") _) _); with_reducible refine we_nm (by with_unfolding_all exact nm_sound_at_moment) (by with_unfolding_all exact rfl) ?_)
  | ((with_reducible show WE _ _ _ (.Name (Str.ofString "hour") _) _); with_reducible refine we_nm (by with_unfolding_all exact nm_sound_at_hour) (by with_unfolding_all exact rfl) ?_)
  | ((with_reducible show WE _ _ _ (.Name (Str.ofString "part") _) _); with_reducible refine we_nm (by with_unfolding_all exact nm_sound_at_part) (by with_unfolding_all exact rfl) ?_)
  | ((with_reducible show WE _ _ _ (.Name (Str.ofString "told") _) _); with_reducible refine we_nm (by with_unfolding_all exact nm_sound_at_told) (by with_unfolding_all exact rfl) ?_))
local macro_rules | `(tactic| walk_at "set") => `(tactic| first
  | ((with_reducible show WS _ _ _ _ (.Assign [.Name (Str.ofString "hour") _] _ _) _); with_reducible refine ws_st (by with_unfolding_all exact st_sound_at_hour) (by with_unfolding_all assumption) (by with_unfolding_all exact rfl) (by with_unfolding_all exact rfl) ?_)
  | ((with_reducible show WS _ _ _ _ (.Assign [.Name (Str.ofString "part") _] _ _) _); with_reducible refine ws_st (by with_unfolding_all exact st_sound_at_part) (by with_unfolding_all assumption) (by with_unfolding_all exact rfl) (by with_unfolding_all exact rfl) ?_)
  | ((with_reducible show WS _ _ _ _ (.Assign [.Name (Str.ofString "told") _] _ _) _); with_reducible refine ws_st (by with_unfolding_all exact st_sound_at_told) (by with_unfolding_all assumption) (by with_unfolding_all exact rfl) (by with_unfolding_all exact rfl) ?_))
local macro_rules | `(tactic| walk_at "aug") => `(tactic| first
  | ((with_reducible show WS _ _ _ _ (.AugAssign (.Name (Str.ofString "hour") _) _ _ _) _); with_reducible refine ws_ag (by with_unfolding_all exact st_sound_at_hour) (by with_unfolding_all assumption) (by with_unfolding_all exact rfl) (by with_unfolding_all exact rfl) ?_)
  | ((with_reducible show WS _ _ _ _ (.AugAssign (.Name (Str.ofString "part") _) _ _ _) _); with_reducible refine ws_ag (by with_unfolding_all exact st_sound_at_part) (by with_unfolding_all assumption) (by with_unfolding_all exact rfl) (by with_unfolding_all exact rfl) ?_)
  | ((with_reducible show WS _ _ _ _ (.AugAssign (.Name (Str.ofString "told") _) _ _ _) _); with_reducible refine ws_ag (by with_unfolding_all exact st_sound_at_told) (by with_unfolding_all assumption) (by with_unfolding_all exact rfl) (by with_unfolding_all exact rfl) ?_))
local macro_rules | `(tactic| walk_at "lc") => `(tactic| first
  | ((with_reducible show WE _ _ _ (.ListComp _ [⟨.Name (Str.ofString "bell") _, _, _, _⟩] _ _) _); with_reducible refine we_lc (own := [(("bell" : Str), 6)]) (Tgt.nm 6) (by with_unfolding_all exact rfl) (by with_unfolding_all assumption) (by with_unfolding_all exact blkOk_by rfl) (by with_unfolding_all decide) (fun b => (by with_unfolding_all exact (pg_name (by with_unfolding_all assumption) (by with_unfolding_all exact rfl) (by with_unfolding_all first | exact Or.inl rfl | exact Or.inr rfl) (by with_unfolding_all first | exact .inl rfl | exact .inr rfl)))) ?_ (by with_unfolding_all (intro _; exact rfl))))
local macro_rules | `(tactic| walk_at "par") => `(tactic| first
  | ((with_reducible show WS _ _ _ _ (.Assign [.Tuple [.Name (Str.ofString "hour") _, .Name (Str.ofString "part") _] _ _] _ _) _); with_reducible refine ws_parF (by with_unfolding_all exact st_sound_at_hour) (by with_unfolding_all exact st_sound_at_part) (by decide) (by with_unfolding_all exact rfl) (by with_unfolding_all assumption) (by with_unfolding_all exact rfl) (by with_unfolding_all exact rfl) (by with_unfolding_all exact rfl) (by with_unfolding_all exact rfl) (by with_unfolding_all exact rfl) (by with_unfolding_all exact rfl) ?_)
  | ((with_reducible show WS _ _ _ _ (.Assign [.Tuple [.Name (Str.ofString "hour") _, .Name (Str.ofString "part") _] _ _] _ _) _); with_reducible refine ws_unp [3, 4] (by with_unfolding_all exact (pg_tup (by with_unfolding_all exact rfl) (pgs_cons (pg_name (by with_unfolding_all assumption) (by with_unfolding_all exact rfl) (by with_unfolding_all first | exact Or.inl rfl | exact Or.inr rfl) (by with_unfolding_all first | exact .inl rfl | exact .inr rfl)) (pgs_cons (pg_name (by with_unfolding_all assumption) (by with_unfolding_all exact rfl) (by with_unfolding_all first | exact Or.inl rfl | exact Or.inr rfl) (by with_unfolding_all first | exact .inl rfl | exact .inr rfl)) (pgs_nil) (by with_unfolding_all exact rfl)) (by with_unfolding_all exact rfl)) (by with_unfolding_all exact rfl) (by with_unfolding_all exact rfl))) (by with_unfolding_all exact rfl) (by with_unfolding_all exact rfl) (by with_unfolding_all exact rfl) ?_))
/-- sound_at -/
abbrev F_sound_at (K : PySem.W.Frag) : FSp := fun ws c Q E => ∃ (l : List Ru) (m a b : Int), clo c.length c = true ∧ 0 < a ∧ 0 < b ∧ l.length ≤ 1000 ∧ Wid m ∧ Wid a ∧ Wid b ∧ ws = [.im (rusD l), .im (.tup [.int a, .int b]), .im (.int m)] ∧ Q (.im (soundsD l a b (m / b % a) (m % b))) c
theorem ok_sound_at (T : Tx K mg) : HasFn P w K mg base 3 "sound_at" P_sound_at (F_sound_at K) := by
  obtain ⟨f, fd, hm, Fu⟩ := T.f_sound_at
  refine ⟨f, fd, hm, Fu.kp, fn_w Fu sc_sound_at (fun ws c Q E => ?_) (fun cdv A outer s H E ws c Q Qx hr hF => ?_), Fu.binds fun _ _ _ _ _ _ us hl => match us, hl with | [_, _, _], _ => rfl⟩
  · rintro ⟨l, m, a, b, hc, h1, h2, hl, hw1, hw2, hw3, rfl, hq⟩; rfl
  obtain ⟨l, m, a, b, hc, h1, h2, hl, hw1, hw2, hw3, rfl, hq⟩ := hF
  have hnd : N_sound_at.Nodup := sc_sound_at.nd
  change WSs _ _ [_, _, _, _, _, _, _] _ _ _
  refine wss_cons ?_
  walk_at "w"
  refine ⟨l, _, _, a, b, hc, h1, h2, hl, rfl, Or.inl ?_⟩
  walk_at "w"
  refine wi_seq ?_
  walk_at "w"
  have hnd2 := st_nd l [] a b (m / b % a) (m % b) List.nodup_nil
  have h64 : (struckL l a b (m / b % a) (m % b)).length < 64 := by
    rcases st_few hnd2 with h | ⟨x, h⟩ | ⟨x, y, h, _⟩ <;> (unfold struckL; rw [h]; exact Nat.le_of_ble_eq_true rfl)
  refine wc_sortedD (ks := (struckL l a b (m / b % a) (m % b)).map fun x => bellS x.1) (l := stV (struckL l a b (m / b % a) (m % b))) (by with_unfolding_all exact rfl) ?_ (by rw [List.length_map]; exact h64) (fun ys hp hs => ?_)
  · have e : ((struckL l a b (m / b % a) (m % b)).map fun x => bellS x.1).map Sum.inr = stK (struckL l a b (m / b % a) (m % b)) := by
      unfold stK bkey; rw [List.map_map]; rfl
    rw [e]
    exact .im
  have hys : ys = (bellsL l a b (m / b % a) (m % b)).map bellS := by
    rw [st_sorted hnd2 hp hs]
    unfold bellsL
    congr 2
    funext lo
    exact struck_any l lo a b _ _
  subst hys
  refine ⟨_, .inl rfl, ?_⟩
  refine lc_list ((bellsL l a b (m / b % a) (m % b)).map fun lo => pairD lo (((firstO l lo a b (m / b % a) (m % b)).getD .hours).num (m / b % a) (m % b))) (by simp) ?_ (fun i d e hd he => ⟨trivial, fun bk => ?_⟩) ?_
  · simp only [List.length_map]
    have : (bellsL l a b (m / b % a) (m % b)).length ≤ 2 := List.length_filter_le _ _
    omega
  · rw [List.getElem?_map, List.getElem?_map, Option.map_map] at hd
    rw [List.getElem?_map] at he
    obtain ⟨lo, hlo, rfl⟩ := Option.map_eq_some_iff.mp hd
    rw [hlo] at he
    have he : pairD lo (((firstO l lo a b (m / b % a) (m % b)).getD .hours).num (m / b % a) (m % b)) = e := Option.some.inj he
    subst he
    obtain ⟨o, ho⟩ := bells_at (List.mem_of_getElem? hlo)
    have hat := struck_at l lo a b (m / b % a) (m % b)
    rw [ho] at hat ⊢
    have hat : atK (stK (struckL l a b (m / b % a) (m % b))) (stV (struckL l a b (m / b % a) (m % b))) (Sum.inr (bellS lo)) = some o.d := hat
    show WE _ _ _ _ _
    walk_at "w"
    refine ⟨o, _, _, rfl, ?_⟩
    walk_at "w"
    exact ⟨rfl, rfl⟩
  · walk_at "w"
    exact q_im hq (sounds_bells _ _ _ _ _)
local macro_rules | `(tactic| walk_at "call") => `(tactic| ((with_reducible show WE _ _ _ (.Call (.Name (Str.ofString "sound_at") _) _ _ _) _); with_reducible refine we_callF (ok_sound_at (by assumption)) (by with_unfolding_all exact ⟨rfl, rfl, rfl, rfl, rfl⟩) (by with_unfolding_all exact L2.Room.mono (by assumption) (by decide)) (by with_unfolding_all exact rfl) (by with_unfolding_all exact rfl) (by with_unfolding_all exact rfl) (by with_unfolding_all exact rfl) ?_))
theorem nm_sound_clock : nmB N_sound (defScope s_sound) "clock" 0 = true := by decide +kernel
theorem nm_sound_land : nmB N_sound (defScope s_sound) "land" 1 = true := by decide +kernel
theorem nm_sound_moment : nmB N_sound (defScope s_sound) "moment" 2 = true := by decide +kernel
local macro_rules | `(tactic| walk_at "n") => `(tactic| first
  | ((with_reducible show WE _ _ _ (.Name (Str.ofString "clock") _) _); with_reducible refine we_nm (by with_unfolding_all exact nm_sound_clock) (by with_unfolding_all exact rfl) ?_)
  | ((with_reducible show WE _ _ _ (.Name (Str.ofString "land") _) _); with_reducible refine we_nm (by with_unfolding_all exact nm_sound_land) (by with_unfolding_all exact rfl) ?_)
  | ((with_reducible show WE _ _ _ (.Name (Str.ofString "moment") _) _); with_reducible refine we_nm (by with_unfolding_all exact nm_sound_moment) (by with_unfolding_all exact rfl) ?_))
/-- sound -/
abbrev F_sound (K : PySem.W.Frag) : FSp := fun ws c Q E => ∃ (l : List Ru) (d t : D) (a : String), clo c.length c = true ∧ l.length ≤ 1000 ∧ Pl 50 d ∧ t.tyn = some a ∧ ws = [.im (clockD K l), .im d, .im t] ∧ (isLandD d G30 = false → E ⟨He.ga K "BadLand", [], []⟩ c) ∧ (isLandD d G30 = true → isFromD t (-F64) F64 = false → E ⟨He.ga K "BadMoment", [], []⟩ c) ∧ (∀ x y m, d = .tup [.int x, .int y] → t = .int m → isLandD d G30 = true → isFromD t (-F64) F64 = true → Q (.im (soundsD l x y (m / y % x) (m % y))) c)
theorem ok_sound (T : Tx K mg) : HasFn P w K mg base 4 "sound" P_sound (F_sound K) := by
  obtain ⟨f, fd, hm, Fu⟩ := T.f_sound
  refine ⟨f, fd, hm, Fu.kp, fn_w Fu sc_sound (fun ws c Q E => ?_) (fun cdv A outer s H E ws c Q Qx hr hF => ?_), Fu.binds fun _ _ _ _ _ _ us hl => match us, hl with | [_, _, _], _ => rfl⟩
  · rintro ⟨l, d, t, a, hc, hl, hp, ht, rfl, he1, he2, hq⟩; rfl
  obtain ⟨l, d, t, a, hc, hl, hp, ht, rfl, he1, he2, hq⟩ := hF
  have hnd : N_sound.Nodup := sc_sound.nd
  change WSs _ _ [_, _, _] _ _ _
  refine wss_cons ?_
  walk_at "w"
  refine ⟨d, hc, hp, rfl, fun hL => ?_, fun hL => ⟨hc, by rw [List.take_length]; exact he1 hL⟩⟩
  walk_at "w"
  refine ⟨t, a, hc, ht, rfl, fun hM => ?_, fun hM => ⟨hc, by rw [List.take_length]; exact he2 hL hM⟩⟩
  obtain ⟨x, y, rfl, hx1, hx2, hy1, hy2⟩ := isLand_inv hL
  obtain ⟨m, rfl, hm1, hm2⟩ := isFrom_inv hM
  unfold G30 at hx2 hy2
  unfold F64 at hm1 hm2
  unfold clockD
  walk_at "w"
  refine ⟨l, m, x, y, hc, by omega, by omega, hl, wid_of (by omega) (by omega), wid_of (by omega) (by omega), wid_of (by omega) (by omega), rfl, ?_⟩
  walk_at "w"
  exact hq x y m rfl rfl hL hM
local macro_rules | `(tactic| walk_at "call") => `(tactic| ((with_reducible show WE _ _ _ (.Call (.Name (Str.ofString "sound") _) _ _ _) _); with_reducible refine we_callF (ok_sound (by assumption)) (by with_unfolding_all exact ⟨rfl, rfl, rfl, rfl, rfl⟩) (by with_unfolding_all exact L2.Room.mono (by assumption) (by decide)) (by with_unfolding_all exact rfl) (by with_unfolding_all exact rfl) (by with_unfolding_all exact rfl) (by with_unfolding_all exact rfl) ?_))
theorem nm_Clock___init___self : nmB N_Clock___init__ (defScope s_Clock___init__) "self" 0 = true := by decide +kernel
theorem nm_Clock___init___rules : nmB N_Clock___init__ (defScope s_Clock___init__) "rules" 1 = true := by decide +kernel
theorem nm_Clock___init___index : nmB N_Clock___init__ (defScope s_Clock___init__) "index" 2 = true := by decide +kernel
theorem st_Clock___init___index : stB N_Clock___init__ (defScope s_Clock___init__) "index" 2 = true := by decide +kernel
theorem nm_Clock___init___rule : nmB N_Clock___init__ (defScope s_Clock___init__) "rule" 3 = true := by decide +kernel
theorem st_Clock___init___rule : stB N_Clock___init__ (defScope s_Clock___init__) "rule" 3 = true := by decide +kernel
local macro_rules | `(tactic| walk_at "n") => `(tactic| first
  | ((with_reducible show WE _ _ _ (.Name (Str.ofString "self") _) _); with_reducible refine we_nm (by with_unfolding_all exact nm_Clock___init___self) (by with_unfolding_all exact rfl) ?_)
  | ((with_reducible show WE _ _ _ (.Name (Str.ofString "rules") _) _); with_reducible refine we_nm (by with_unfolding_all exact nm_Clock___init___rules) (by with_unfolding_all exact rfl) ?_)
  | ((with_reducible show WE _ _ _ (.Name (Str.ofString "index") _) _); with_reducible refine we_nm (by with_unfolding_all exact nm_Clock___init___index) (by with_unfolding_all exact rfl) ?_)
  | ((with_reducible show WE _ _ _ (.Name (Str.ofString "rule") _) _); with_reducible refine we_nm (by with_unfolding_all exact nm_Clock___init___rule) (by with_unfolding_all exact rfl) ?_))
local macro_rules | `(tactic| walk_at "set") => `(tactic| first
  | ((with_reducible show WS _ _ _ _ (.Assign [.Name (Str.ofString "index") _] _ _) _); with_reducible refine ws_st (by with_unfolding_all exact st_Clock___init___index) (by with_unfolding_all assumption) (by with_unfolding_all exact rfl) (by with_unfolding_all exact rfl) ?_)
  | ((with_reducible show WS _ _ _ _ (.Assign [.Name (Str.ofString "rule") _] _ _) _); with_reducible refine ws_st (by with_unfolding_all exact st_Clock___init___rule) (by with_unfolding_all assumption) (by with_unfolding_all exact rfl) (by with_unfolding_all exact rfl) ?_))
local macro_rules | `(tactic| walk_at "aug") => `(tactic| first
  | ((with_reducible show WS _ _ _ _ (.AugAssign (.Name (Str.ofString "index") _) _ _ _) _); with_reducible refine ws_ag (by with_unfolding_all exact st_Clock___init___index) (by with_unfolding_all assumption) (by with_unfolding_all exact rfl) (by with_unfolding_all exact rfl) ?_)
  | ((with_reducible show WS _ _ _ _ (.AugAssign (.Name (Str.ofString "rule") _) _ _ _) _); with_reducible refine ws_ag (by with_unfolding_all exact st_Clock___init___rule) (by with_unfolding_all assumption) (by with_unfolding_all exact rfl) (by with_unfolding_all exact rfl) ?_))
local macro_rules | `(tactic| walk_at "for") => `(tactic| first
  | ((with_reducible show WS _ _ _ _ (.For (.Tuple [.Name (Str.ofString "index") _, .Name (Str.ofString "rule") _] _ _) _ _ _ _) _); with_reducible refine ws_forF (Tgt.tp [2, 3]) (by with_unfolding_all exact rfl) (by with_unfolding_all exact (pg_tup (by with_unfolding_all exact rfl) (pgs_cons (pg_name (by with_unfolding_all assumption) (by with_unfolding_all exact rfl) (by with_unfolding_all first | exact Or.inl rfl | exact Or.inr rfl) (by with_unfolding_all first | exact .inl rfl | exact .inr rfl)) (pgs_cons (pg_name (by with_unfolding_all assumption) (by with_unfolding_all exact rfl) (by with_unfolding_all first | exact Or.inl rfl | exact Or.inr rfl) (by with_unfolding_all first | exact .inl rfl | exact .inr rfl)) (pgs_nil) (by with_unfolding_all exact rfl)) (by with_unfolding_all exact rfl)) (by with_unfolding_all exact rfl) (by with_unfolding_all exact rfl))) (by with_unfolding_all (intro _; exact rfl)) ?_))
/-- Clock.__init__ -/
abbrev F_Clock___init__ (K : PySem.W.Frag) : FSp := fun ws c Q E => ∃ (n : Nat) (l : List Ru), c[n]? = some (.ins (He.ga K "Clock") [] []) ∧ (∀ r ∈ l, r.ok) ∧ l.length ≤ 4 ∧ ws = [.ce n, .im (rusD l)] ∧ Q (.im .non) (c.set n (.ins (He.ga K "Clock") ["rows"] [.im (rusD l)]))
theorem ok_Clock___init__ (T : Tx K mg) : HasMk P w K mg base 4 "Clock" (He.ga K "Clock") P_Clock___init__ (F_Clock___init__ K) := by
  obtain ⟨fd, Fu⟩ := T.f_Clock___init__
  refine ⟨_, fd, T.g_Clock, T.m_Clock, fn_w Fu sc_Clock___init__ (fun ws c Q E => ?_) (fun cdv A outer s H E ws c Q Qx hr hF => ?_), Fu.binds fun _ _ _ _ _ _ us hl => match us, hl with | [_, _], _ => rfl⟩
  · rintro ⟨n, l, hc, hok, hl, rfl, hq⟩; rfl
  obtain ⟨n, l, hc, hok, hl, rfl, hq⟩ := hF
  have hnd : N_Clock___init__.Nodup := sc_Clock___init__.nd
  change WSs _ _ [_, _, _, _] _ _ _
  refine wss_cons ?_
  have hlen : l.length ≤ 1000000 := Nat.le_trans hl (by decide)
  have hlen2 : (l.map Ru.d).length ≤ 1000000 := by rw [List.length_map]; exact hlen
  unfold rusD at hq ⊢
  have h4 : ¬ (4 < ((l.map Ru.d).length : Int)) := by rw [List.length_map]; omega
  walk_at "w"
  refine forask (fun i ρ' c' => c' = c ∧ ∃ x1 x2, ρ' = [some (.ce n), some (.im (.tup (l.map Ru.d))), x1, x2]) ⟨rfl, none, none, rfl⟩ (fun i d ρ' c' hd hP => ?_) (fun ρ' c' hP => ?_)
  · obtain ⟨rfl, x1, x2, rfl⟩ := hP
    obtain ⟨e, he, rfl⟩ := enumD_get hd
    rw [List.getElem?_map] at he
    obtain ⟨r, hr1, rfl⟩ := Option.map_eq_some_iff.mp he
    refine ⟨⟨_, rfl, rfl⟩, ?_⟩
    change WSs _ _ [_, _, _, _] _ _ _
    walk_at "w"
    refine ⟨r.d, Pl.mono (pl_ru r) (by decide), rfl, ?_⟩
    rw [isRule_d (hok r (List.mem_of_getElem? hr1))]
    walk_at "w"
    exact ⟨rfl, _, _, rfl⟩
  · obtain ⟨rfl, x1, x2, rfl⟩ := hP
    walk_at "w"
    refine ⟨n, _, _, rfl, hc, by decide, ?_⟩
    refine RtOk.all ?_
    exact hq
local macro_rules | `(tactic| walk_at "call") => `(tactic| ((with_reducible show WE _ _ _ (.Call (.Name (Str.ofString "Clock") _) _ _ _) _); with_reducible refine we_frz (we_makeF (ok_Clock___init__ (by assumption)) (by with_unfolding_all exact ⟨rfl, rfl, rfl, rfl, rfl⟩) (by with_unfolding_all exact L2.Room.mono (by assumption) (by decide)) (by with_unfolding_all exact rfl) (by with_unfolding_all exact rfl) (by with_unfolding_all exact rfl) (by with_unfolding_all exact rfl) ?_)))
theorem nm__law_random__law_script : nmB N__law_random (defScope s__law_random) "_law_script" 0 = true := by decide +kernel
theorem nm__law_random__law_salt : nmB N__law_random (defScope s__law_random) "_law_salt" 1 = true := by decide +kernel
theorem nm__law_random__law_seed : nmB N__law_random (defScope s__law_random) "_law_seed" 2 = true := by decide +kernel
theorem st__law_random__law_seed : stB N__law_random (defScope s__law_random) "_law_seed" 2 = true := by decide +kernel
theorem nm__law_random__law_cell : nmB N__law_random (defScope s__law_random) "_law_cell" 3 = true := by decide +kernel
theorem st__law_random__law_cell : stB N__law_random (defScope s__law_random) "_law_cell" 3 = true := by decide +kernel
local macro_rules | `(tactic| walk_at "n") => `(tactic| first
  | ((with_reducible show WE _ _ _ (.Name (Str.ofString "_law_script") _) _); with_reducible refine we_nm (by with_unfolding_all exact nm__law_random__law_script) (by with_unfolding_all exact rfl) ?_)
  | ((with_reducible show WE _ _ _ (.Name (Str.ofString "_law_salt") _) _); with_reducible refine we_nm (by with_unfolding_all exact nm__law_random__law_salt) (by with_unfolding_all exact rfl) ?_)
  | ((with_reducible show WE _ _ _ (.Name (Str.ofString "_law_seed") _) _); with_reducible refine we_nm (by with_unfolding_all exact nm__law_random__law_seed) (by with_unfolding_all exact rfl) ?_)
  | ((with_reducible show WE _ _ _ (.Name (Str.ofString "_law_cell") _) _); with_reducible refine we_nm (by with_unfolding_all exact nm__law_random__law_cell) (by with_unfolding_all exact rfl) ?_))
local macro_rules | `(tactic| walk_at "set") => `(tactic| first
  | ((with_reducible show WS _ _ _ _ (.Assign [.Name (Str.ofString "_law_seed") _] _ _) _); with_reducible refine ws_st (by with_unfolding_all exact st__law_random__law_seed) (by with_unfolding_all assumption) (by with_unfolding_all exact rfl) (by with_unfolding_all exact rfl) ?_)
  | ((with_reducible show WS _ _ _ _ (.Assign [.Name (Str.ofString "_law_cell") _] _ _) _); with_reducible refine ws_st (by with_unfolding_all exact st__law_random__law_cell) (by with_unfolding_all assumption) (by with_unfolding_all exact rfl) (by with_unfolding_all exact rfl) ?_))
local macro_rules | `(tactic| walk_at "aug") => `(tactic| first
  | ((with_reducible show WS _ _ _ _ (.AugAssign (.Name (Str.ofString "_law_seed") _) _ _ _) _); with_reducible refine ws_ag (by with_unfolding_all exact st__law_random__law_seed) (by with_unfolding_all assumption) (by with_unfolding_all exact rfl) (by with_unfolding_all exact rfl) ?_)
  | ((with_reducible show WS _ _ _ _ (.AugAssign (.Name (Str.ofString "_law_cell") _) _ _ _) _); with_reducible refine ws_ag (by with_unfolding_all exact st__law_random__law_cell) (by with_unfolding_all assumption) (by with_unfolding_all exact rfl) (by with_unfolding_all exact rfl) ?_))
local macro_rules | `(tactic| walk_at "lc") => `(tactic| first
  | ((with_reducible show WE _ _ _ (.ListComp _ [⟨.Name (Str.ofString "_law_cell") _, _, _, _⟩] _ _) _); with_reducible refine we_lc (own := [(("_law_cell" : Str), 3)]) (Tgt.nm 3) (by with_unfolding_all exact rfl) (by with_unfolding_all assumption) (by with_unfolding_all exact blkOk_by rfl) (by with_unfolding_all decide) (fun b => (by with_unfolding_all exact (pg_name (by with_unfolding_all assumption) (by with_unfolding_all exact rfl) (by with_unfolding_all first | exact Or.inl rfl | exact Or.inr rfl) (by with_unfolding_all first | exact .inl rfl | exact .inr rfl)))) ?_ (by with_unfolding_all (intro _; exact rfl))))
local macro_rules | `(tactic| walk_at "for") => `(tactic| first
  | ((with_reducible show WS _ _ _ _ (.For (.Name (Str.ofString "_law_cell") _) _ _ _ _) _); with_reducible refine ws_forF (Tgt.nm 3) (by with_unfolding_all exact rfl) (by with_unfolding_all exact (pg_name (by with_unfolding_all assumption) (by with_unfolding_all exact rfl) (by with_unfolding_all first | exact Or.inl rfl | exact Or.inr rfl) (by with_unfolding_all first | exact .inl rfl | exact .inr rfl))) (by with_unfolding_all (intro _; exact rfl)) ?_))
/-- _law_random -/
abbrev F__law_random (K : PySem.W.Frag) : FSp := fun ws c Q E => ∃ (l : List Int) (s : Int), clo c.length c = true ∧ l.length ≤ 63 ∧ ws = [.im (.scr l), .im (.int s)] ∧ ∀ dr : Dr, dr.ok → Q (.ce c.length) (c ++ [.lst dr.l])
theorem ok__law_random (T : Tx K mg) : HasFn P w K mg base 1 "_law_random" P__law_random (F__law_random K) := by
  obtain ⟨f, fd, hm, Fu⟩ := T.f__law_random
  refine ⟨f, fd, hm, Fu.kp, fn_w Fu sc__law_random (fun ws c Q E => ?_) (fun cdv A outer s H E ws c Q Qx hr hF => ?_), Fu.binds fun _ _ _ _ _ _ us hl => match us, hl with | [_, _], _ => rfl⟩
  · rintro ⟨l, s, hc, hl, rfl, hq⟩; rfl
  obtain ⟨l, s, hc, hl, rfl, hq⟩ := hF
  have hnd : N__law_random.Nodup := sc__law_random.nd
  change WSs _ _ [_, _, _, _] _ _ _
  refine wss_cons ?_
  walk_at "w"
  refine wi_seq ?_
  walk_at "w"
  refine ⟨_, .inr ⟨_, rfl, rfl⟩, ?_⟩
  refine forask (fun i ρ' c' => c' = c ∧ ∃ (s2 : Int) (x1 : Option W), ρ' = [some (.im (.scr l)), some (.im (.int s)), some (.im (.int s2)), x1]) ⟨rfl, s, none, rfl⟩ (fun i d ρ' c' hd hP => ?_) (fun ρ' c' hP => ?_)
  · obtain ⟨rfl, s2, x1, rfl⟩ := hP
    rw [List.getElem?_map] at hd
    obtain ⟨r, hr1, rfl⟩ := Option.map_eq_some_iff.mp hd
    refine ⟨trivial, ?_⟩
    change WSs _ _ [_, _, _, _] _ _ _
    walk_at "w"
    exact ⟨rfl, _, _, rfl⟩
  · obtain ⟨rfl, s2, x1, rfl⟩ := hP
    walk_at "w"
    refine wi_seq ?_
    walk_at "w"
    refine ⟨_, .inr ⟨_, rfl, rfl⟩, ?_⟩
    refine lc_filter (fun d => match d with | .int i => decide (10 ^ 18 ≤ i) | _ => false) id (by rw [List.length_map]; omega) (fun i d hd => ⟨trivial, fun b => ?_⟩) (fun i d hd hp b => ?_) ?_
    · rw [List.getElem?_map] at hd
      obtain ⟨r, hr1, rfl⟩ := Option.map_eq_some_iff.mp hd
      walk_at "w"
      exact ⟨rfl, rfl⟩
    · walk_at "w"
      exact ⟨rfl, rfl⟩
    · have e : ((l.map D.int).filter (fun d => match d with | .int i => decide ((10 : Int) ^ 18 ≤ i) | _ => false)).map id = (l.filter fun i => decide ((10 : Int) ^ 18 ≤ i)).map D.int := by
        rw [List.map_id, List.filter_map]; rfl
      rw [e]
      have hz : (l.filter fun i => decide ((10 : Int) ^ 18 ≤ i)).length ≤ 63 := Nat.le_trans (List.length_filter_le _ _) hl
      refine wo_catC .im .im (by rw [List.length_map]; simp only [List.length_cons, List.length_nil]; omega) ?_
      refine RtOk.newL cel_0 ?_ (Nat.le_refl _) (clo_app hc)
      rw [take_app]
      exact hq ⟨s2, 0, l.filter fun i => decide ((10 : Int) ^ 18 ≤ i)⟩ (show (l.filter fun i => decide ((10 : Int) ^ 18 ≤ i)).length ≤ 1000 by omega)
local macro_rules | `(tactic| walk_at "call") => `(tactic| ((with_reducible show WE _ _ _ (.Call (.Name (Str.ofString "_law_random") _) _ _ _) _); with_reducible refine we_callF (ok__law_random (by assumption)) (by with_unfolding_all exact ⟨rfl, rfl, rfl, rfl, rfl⟩) (by with_unfolding_all exact L2.Room.mono (by assumption) (by decide)) (by with_unfolding_all exact rfl) (by with_unfolding_all exact rfl) (by with_unfolding_all exact rfl) (by with_unfolding_all exact rfl) ?_))
theorem nm__law_below__law_d : nmB N__law_below (defScope s__law_below) "_law_d" 0 = true := by decide +kernel
theorem nm__law_below__law_size : nmB N__law_below (defScope s__law_below) "_law_size" 1 = true := by decide +kernel
theorem nm__law_below__law_result : nmB N__law_below (defScope s__law_below) "_law_result" 2 = true := by decide +kernel
theorem st__law_below__law_result : stB N__law_below (defScope s__law_below) "_law_result" 2 = true := by decide +kernel
local macro_rules | `(tactic| walk_at "n") => `(tactic| first
  | ((with_reducible show WE _ _ _ (.Name (Str.ofString "_law_d") _) _); with_reducible refine we_nm (by with_unfolding_all exact nm__law_below__law_d) (by with_unfolding_all exact rfl) ?_)
  | ((with_reducible show WE _ _ _ (.Name (Str.ofString "_law_size") _) _); with_reducible refine we_nm (by with_unfolding_all exact nm__law_below__law_size) (by with_unfolding_all exact rfl) ?_)
  | ((with_reducible show WE _ _ _ (.Name (Str.ofString "_law_result") _) _); with_reducible refine we_nm (by with_unfolding_all exact nm__law_below__law_result) (by with_unfolding_all exact rfl) ?_))
local macro_rules | `(tactic| walk_at "set") => `(tactic| first
  | ((with_reducible show WS _ _ _ _ (.Assign [.Name (Str.ofString "_law_result") _] _ _) _); with_reducible refine ws_st (by with_unfolding_all exact st__law_below__law_result) (by with_unfolding_all assumption) (by with_unfolding_all exact rfl) (by with_unfolding_all exact rfl) ?_))
local macro_rules | `(tactic| walk_at "aug") => `(tactic| first
  | ((with_reducible show WS _ _ _ _ (.AugAssign (.Name (Str.ofString "_law_result") _) _ _ _) _); with_reducible refine ws_ag (by with_unfolding_all exact st__law_below__law_result) (by with_unfolding_all assumption) (by with_unfolding_all exact rfl) (by with_unfolding_all exact rfl) ?_))
/-- _law_below -/
abbrev F__law_below (K : PySem.W.Frag) : FSp := fun ws c Q E => ∃ (n : Nat) (dr : Dr) (m : Int), c[n]? = some (.lst dr.l) ∧ dr.ok ∧ 0 < m ∧ Wid m ∧ ws = [.ce n, .im (.int m)] ∧ ∀ (dr' : Dr) (r : Int), dr'.ok → 0 ≤ r → r < m → Q (.im (.int r)) (c.set n (.lst dr'.l))
theorem ok__law_below (T : Tx K mg) : HasFn P w K mg base 1 "_law_below" P__law_below (F__law_below K) := by
  obtain ⟨f, fd, hm, Fu⟩ := T.f__law_below
  refine ⟨f, fd, hm, Fu.kp, fn_w Fu sc__law_below (fun ws c Q E => ?_) (fun cdv A outer s H E ws c Q Qx hr hF => ?_), Fu.binds fun _ _ _ _ _ _ us hl => match us, hl with | [_, _], _ => rfl⟩
  · rintro ⟨n, dr, m, hn, hd, hm, hw, rfl, hq⟩; rfl
  obtain ⟨n, dr, m, hn, hd, hm, hw, rfl, hq⟩ := hF
  have hnd : N__law_below.Nodup := sc__law_below.nd
  change WSs _ _ [_, _, _] _ _ _
  obtain ⟨sd, cu, rest⟩ := dr
  have hl : (D.int sd :: D.int cu :: rest.map D.int).length ≤ 1000000 := by
    have : rest.length ≤ 1000 := hd
    simp only [List.length_cons, List.length_map]; omega
  dsimp only [Dr.l] at hn
  refine wss_cut (fun ρ' c' => ∃ dr' : Dr, dr'.ok ∧ ρ' = [some (.ce n), some (.im (.int m)), none] ∧ c' = c.set n (.lst dr'.l)) ?_ (fun ρ' c' hP => ?_)
  · have self : c = c.set n (.lst (Dr.l ⟨sd, cu, rest⟩)) := (set_self hn).symm
    walk_at "w"
    by_cases h0 : cu = 0
    · refine iteDP h0 ?_
      walk_at "w"
      cases rest with
      | nil =>
        walk_at "w"
        exact ⟨_, hd, rfl, self⟩
      | cons x r =>
        have h2 : 2 < ((D.int sd :: D.int cu :: List.map D.int (x :: r)).length : Int) := by
          simp only [List.length_cons, List.map_cons]; omega
        refine iteDP h2 ?_
        walk_at "w"
        refine wm_popAtE (k := 2) (d := .int x) hn (by decide) seq_2 rfl rfl ?_
        have hn3 : (c.set n (.lst ((D.int sd :: D.int cu :: List.map D.int (x :: r)).eraseIdx 2)))[n]? = some (.lst (.int sd :: .int cu :: r.map D.int)) := cel_s hn
        walk_at "w"
        refine ⟨⟨sd, x, r⟩, ?_, rfl, rfl⟩
        have : (x :: r).length ≤ 1000 := hd
        show r.length ≤ 1000
        simp only [List.length_cons] at this; omega
    · refine iteDN h0 ?_
      walk_at "w"
      exact ⟨_, hd, rfl, self⟩
  · obtain ⟨⟨sd, cu, rest⟩, hd, rfl, rfl⟩ := hP
    have hn2 : (c.set n (.lst (.int sd :: .int cu :: rest.map D.int)))[n]? = some (.lst (.int sd :: .int cu :: rest.map D.int)) := cel_s hn
    dsimp only [Dr.l]
    walk_at "w"
    by_cases h1 : 0 < cu
    · refine iteDP h1 ?_
      walk_at "w"
      refine RtOk.all ?_
      exact hq ⟨sd, cu / m, rest⟩ _ hd (Int.emod_nonneg _ (by omega)) (Int.emod_lt_of_pos _ hm)
    · refine iteDN h1 ?_
      walk_at "w"
      refine RtOk.all ?_
      exact hq ⟨_, cu, rest⟩ _ hd (Int.emod_nonneg _ (by omega)) (Int.emod_lt_of_pos _ hm)
local macro_rules | `(tactic| walk_at "call") => `(tactic| ((with_reducible show WE _ _ _ (.Call (.Name (Str.ofString "_law_below") _) _ _ _) _); with_reducible refine we_callF (ok__law_below (by assumption)) (by with_unfolding_all exact ⟨rfl, rfl, rfl, rfl, rfl⟩) (by with_unfolding_all exact L2.Room.mono (by assumption) (by decide)) (by with_unfolding_all exact rfl) (by with_unfolding_all exact rfl) (by with_unfolding_all exact rfl) (by with_unfolding_all exact rfl) ?_))
theorem nm__law_pick__law_d : nmB N__law_pick (defScope s__law_pick) "_law_d" 0 = true := by decide +kernel
theorem nm__law_pick__law_items : nmB N__law_pick (defScope s__law_pick) "_law_items" 1 = true := by decide +kernel
local macro_rules | `(tactic| walk_at "n") => `(tactic| first
  | ((with_reducible show WE _ _ _ (.Name (Str.ofString "_law_d") _) _); with_reducible refine we_nm (by with_unfolding_all exact nm__law_pick__law_d) (by with_unfolding_all exact rfl) ?_)
  | ((with_reducible show WE _ _ _ (.Name (Str.ofString "_law_items") _) _); with_reducible refine we_nm (by with_unfolding_all exact nm__law_pick__law_items) (by with_unfolding_all exact rfl) ?_))
/-- _law_pick -/
abbrev F__law_pick (K : PySem.W.Frag) : FSp := fun ws c Q E => ∃ (n : Nat) (dr : Dr) (l : List D), c[n]? = some (.lst dr.l) ∧ dr.ok ∧ 0 < l.length ∧ l.length ≤ 1000 ∧ ws = [.ce n, .im (.lst l)] ∧ ∀ (dr' : Dr) (x : D), dr'.ok → x ∈ l → Q (.im x) (c.set n (.lst dr'.l))
theorem ok__law_pick (T : Tx K mg) : HasFn P w K mg base 2 "_law_pick" P__law_pick (F__law_pick K) := by
  obtain ⟨f, fd, hm, Fu⟩ := T.f__law_pick
  refine ⟨f, fd, hm, Fu.kp, fn_w Fu sc__law_pick (fun ws c Q E => ?_) (fun cdv A outer s H E ws c Q Qx hr hF => ?_), Fu.binds fun _ _ _ _ _ _ us hl => match us, hl with | [_, _], _ => rfl⟩
  · rintro ⟨n, dr, l, hn, hd, hl, hl2, rfl, hq⟩; rfl
  obtain ⟨n, dr, l, hn, hd, hl, hl2, rfl, hq⟩ := hF
  have hnd : N__law_pick.Nodup := sc__law_pick.nd
  change WSs _ _ [_, _] _ _ _
  have hlen : l.length ≤ 1000000 := Nat.le_trans hl2 (by decide)
  refine wss_one ?_
  walk_at "w"
  refine ⟨n, dr, _, hn, hd, by omega, wid_of (by omega) (by omega), rfl, fun dr' r hd' h1 h2 => ?_⟩
  obtain ⟨k, rfl⟩ := Int.eq_ofNat_of_zero_le h1
  have hk : k < l.length := by omega
  have hat : L2.atI l (k : Int) = some l[k] := atI_nat hk
  walk_at "w"
  refine RtOk.all ?_
  exact hq dr' _ hd' (List.getElem_mem hk)
local macro_rules | `(tactic| walk_at "call") => `(tactic| ((with_reducible show WE _ _ _ (.Call (.Name (Str.ofString "_law_pick") _) _ _ _) _); with_reducible refine we_callF (ok__law_pick (by assumption)) (by with_unfolding_all exact ⟨rfl, rfl, rfl, rfl, rfl⟩) (by with_unfolding_all exact L2.Room.mono (by assumption) (by decide)) (by with_unfolding_all exact rfl) (by with_unfolding_all exact rfl) (by with_unfolding_all exact rfl) (by with_unfolding_all exact rfl) ?_))
theorem nm__law_taking__law_d : nmB N__law_taking (defScope s__law_taking) "_law_d" 0 = true := by decide +kernel
theorem nm__law_taking__law_word : nmB N__law_taking (defScope s__law_taking) "_law_word" 1 = true := by decide +kernel
theorem nm__law_taking__law_pick_here : nmB N__law_taking (defScope s__law_taking) "_law_pick_here" 2 = true := by decide +kernel
theorem st__law_taking__law_pick_here : stB N__law_taking (defScope s__law_taking) "_law_pick_here" 2 = true := by decide +kernel
local macro_rules | `(tactic| walk_at "n") => `(tactic| first
  | ((with_reducible show WE _ _ _ (.Name (Str.ofString "_law_d") _) _); with_reducible refine we_nm (by with_unfolding_all exact nm__law_taking__law_d) (by with_unfolding_all exact rfl) ?_)
  | ((with_reducible show WE _ _ _ (.Name (Str.ofString "_law_word") _) _); with_reducible refine we_nm (by with_unfolding_all exact nm__law_taking__law_word) (by with_unfolding_all exact rfl) ?_)
  | ((with_reducible show WE _ _ _ (.Name (Str.ofString "_law_pick_here") _) _); with_reducible refine we_nm (by with_unfolding_all exact nm__law_taking__law_pick_here) (by with_unfolding_all exact rfl) ?_))
local macro_rules | `(tactic| walk_at "set") => `(tactic| first
  | ((with_reducible show WS _ _ _ _ (.Assign [.Name (Str.ofString "_law_pick_here") _] _ _) _); with_reducible refine ws_st (by with_unfolding_all exact st__law_taking__law_pick_here) (by with_unfolding_all assumption) (by with_unfolding_all exact rfl) (by with_unfolding_all exact rfl) ?_))
local macro_rules | `(tactic| walk_at "aug") => `(tactic| first
  | ((with_reducible show WS _ _ _ _ (.AugAssign (.Name (Str.ofString "_law_pick_here") _) _ _ _) _); with_reducible refine ws_ag (by with_unfolding_all exact st__law_taking__law_pick_here) (by with_unfolding_all assumption) (by with_unfolding_all exact rfl) (by with_unfolding_all exact rfl) ?_))
/-- _law_taking -/
abbrev F__law_taking (K : PySem.W.Frag) : FSp := fun ws c Q E => ∃ (n : Nat) (dr : Dr) (x : Str), c[n]? = some (.lst dr.l) ∧ dr.ok ∧ ws = [.ce n, .im (.str x)] ∧ ∀ (dr' : Dr) (t : Tk), dr'.ok → t.ok → Q (.im (t.d x)) (c.set n (.lst dr'.l))
theorem ok__law_taking (T : Tx K mg) : HasFn P w K mg base 2 "_law_taking" P__law_taking (F__law_taking K) := by
  obtain ⟨f, fd, hm, Fu⟩ := T.f__law_taking
  refine ⟨f, fd, hm, Fu.kp, fn_w Fu sc__law_taking (fun ws c Q E => ?_) (fun cdv A outer s H E ws c Q Qx hr hF => ?_), Fu.binds fun _ _ _ _ _ _ us hl => match us, hl with | [_, _], _ => rfl⟩
  · rintro ⟨n, dr, x, hn, hd, rfl, hq⟩; rfl
  obtain ⟨n, dr, x, hn, hd, rfl, hq⟩ := hF
  have hnd : N__law_taking.Nodup := sc__law_taking.nd
  change WSs _ _ [_, _, _] _ _ _
  refine wss_cons ?_
  walk_at "w"
  refine ⟨n, dr, 3, hn, hd, by decide, wid_of (by decide) (by decide), rfl, fun dr1 r hd1 h1 h2 => ?_⟩
  have hn1 : (c.set n (.lst dr1.l))[n]? = some (.lst dr1.l) := cel_s hn
  have hr3 : r = 0 ∨ r = 1 ∨ r = 2 := by omega
  rcases hr3 with rfl | rfl | rfl
  · walk_at "w"
    refine RtOk.all ?_
    exact hq dr1 .all hd1 trivial
  · walk_at "w"
    refine ⟨n, dr1, 4, hn1, hd1, by decide, wid_of (by decide) (by decide), rfl, fun dr2 q hd2 h3 h4 => ?_⟩
    rw [List.set_set]
    walk_at "w"
    refine RtOk.all ?_
    exact hq dr2 (.one (q - 2)) hd2 (show _ ∧ _ by omega)
  · walk_at "w"
    refine ⟨n, dr1, 4, hn1, hd1, by decide, wid_of (by decide) (by decide), rfl, fun dr2 q hd2 h3 h4 => ?_⟩
    rw [List.set_set]
    walk_at "w"
    refine RtOk.all ?_
    exact hq dr2 (.but (q - 2)) hd2 (show _ ∧ _ by omega)
local macro_rules | `(tactic| walk_at "call") => `(tactic| ((with_reducible show WE _ _ _ (.Call (.Name (Str.ofString "_law_taking") _) _ _ _) _); with_reducible refine we_callF (ok__law_taking (by assumption)) (by with_unfolding_all exact ⟨rfl, rfl, rfl, rfl, rfl⟩) (by with_unfolding_all exact L2.Room.mono (by assumption) (by decide)) (by with_unfolding_all exact rfl) (by with_unfolding_all exact rfl) (by with_unfolding_all exact rfl) (by with_unfolding_all exact rfl) ?_))
theorem nm__law_rule__law_d : nmB N__law_rule (defScope s__law_rule) "_law_d" 0 = true := by decide +kernel
theorem nm__law_rule__law_often : nmB N__law_rule (defScope s__law_rule) "_law_often" 1 = true := by decide +kernel
theorem st__law_rule__law_often : stB N__law_rule (defScope s__law_rule) "_law_often" 1 = true := by decide +kernel
local macro_rules | `(tactic| walk_at "n") => `(tactic| first
  | ((with_reducible show WE _ _ _ (.Name (Str.ofString "_law_d") _) _); with_reducible refine we_nm (by with_unfolding_all exact nm__law_rule__law_d) (by with_unfolding_all exact rfl) ?_)
  | ((with_reducible show WE _ _ _ (.Name (Str.ofString "_law_often") _) _); with_reducible refine we_nm (by with_unfolding_all exact nm__law_rule__law_often) (by with_unfolding_all exact rfl) ?_))
local macro_rules | `(tactic| walk_at "set") => `(tactic| first
  | ((with_reducible show WS _ _ _ _ (.Assign [.Name (Str.ofString "_law_often") _] _ _) _); with_reducible refine ws_st (by with_unfolding_all exact st__law_rule__law_often) (by with_unfolding_all assumption) (by with_unfolding_all exact rfl) (by with_unfolding_all exact rfl) ?_))
local macro_rules | `(tactic| walk_at "aug") => `(tactic| first
  | ((with_reducible show WS _ _ _ _ (.AugAssign (.Name (Str.ofString "_law_often") _) _ _ _) _); with_reducible refine ws_ag (by with_unfolding_all exact st__law_rule__law_often) (by with_unfolding_all assumption) (by with_unfolding_all exact rfl) (by with_unfolding_all exact rfl) ?_))
/-- _law_rule -/
abbrev F__law_rule (K : PySem.W.Frag) : FSp := fun ws c Q E => ∃ (n : Nat) (dr : Dr), c[n]? = some (.lst dr.l) ∧ dr.ok ∧ ws = [.ce n] ∧ ∀ (dr' : Dr) (r : Ru), dr'.ok → r.ok → Q (.im r.d) (c.set n (.lst dr'.l))
theorem ok__law_rule (T : Tx K mg) : HasFn P w K mg base 3 "_law_rule" P__law_rule (F__law_rule K) := by
  obtain ⟨f, fd, hm, Fu⟩ := T.f__law_rule
  refine ⟨f, fd, hm, Fu.kp, fn_w Fu sc__law_rule (fun ws c Q E => ?_) (fun cdv A outer s H E ws c Q Qx hr hF => ?_), Fu.binds fun _ _ _ _ _ _ us hl => match us, hl with | [_], _ => rfl⟩
  · rintro ⟨n, dr, hn, hd, rfl, hq⟩; rfl
  obtain ⟨n, dr, hn, hd, rfl, hq⟩ := hF
  have hnd : N__law_rule.Nodup := sc__law_rule.nd
  change WSs _ _ [_, _] _ _ _
  refine wss_cons ?_
  walk_at "w"
  refine ⟨n, dr, _, hn, hd, by decide +kernel, by decide +kernel, rfl, fun dr1 x hd1 hx => ?_⟩
  obtain ⟨o, ho, rfl⟩ : ∃ o : Of, o.ok ∧ x = o.d := by
    simp only [List.mem_cons, List.not_mem_nil, or_false] at hx
    rcases hx with rfl | rfl | rfl | rfl | rfl | rfl
    · exact ⟨.times 1, ⟨by decide, by decide⟩, rfl⟩
    · exact ⟨.times 2, ⟨by decide, by decide⟩, rfl⟩
    · exact ⟨.times 3, ⟨by decide, by decide⟩, rfl⟩
    · exact ⟨.hours, trivial, rfl⟩
    · exact ⟨.hours, trivial, rfl⟩
    · exact ⟨.parts, trivial, rfl⟩
  have hn1 : ∀ d : Dr, (c.set n (.lst d.l))[n]? = some (.lst d.l) := fun d => cel_s hn
  walk_at "w"
  refine ⟨n, dr1, _, hn1 dr1, hd1, rfl, fun dr2 t1 hd2 ht1 => ?_⟩
  rw [List.set_set]
  walk_at "w"
  refine ⟨n, dr2, _, hn1 dr2, hd2, rfl, fun dr3 t2 hd3 ht2 => ?_⟩
  rw [List.set_set]
  walk_at "w"
  refine ⟨n, dr3, _, hn1 dr3, hd3, by decide +kernel, by decide +kernel, rfl, fun dr4 x hd4 hx => ?_⟩
  rw [List.set_set]
  obtain ⟨b, rfl⟩ : ∃ b, x = .str (bellS b) := by
    simp only [List.mem_cons, List.not_mem_nil, or_false] at hx
    rcases hx with rfl | rfl | rfl
    · exact ⟨false, rfl⟩
    · exact ⟨true, rfl⟩
    · exact ⟨true, rfl⟩
  walk_at "w"
  refine RtOk.all ?_
  exact hq dr4 ⟨t1, t2, b, o⟩ hd4 ⟨ht1, ht2, ho⟩
local macro_rules | `(tactic| walk_at "call") => `(tactic| ((with_reducible show WE _ _ _ (.Call (.Name (Str.ofString "_law_rule") _) _ _ _) _); with_reducible refine we_callF (ok__law_rule (by assumption)) (by with_unfolding_all exact ⟨rfl, rfl, rfl, rfl, rfl⟩) (by with_unfolding_all exact L2.Room.mono (by assumption) (by decide)) (by with_unfolding_all exact rfl) (by with_unfolding_all exact rfl) (by with_unfolding_all exact rfl) (by with_unfolding_all exact rfl) ?_))
theorem nm__law_rules__law_d : nmB N__law_rules (defScope s__law_rules) "_law_d" 0 = true := by decide +kernel
theorem nm__law_rules__law_most : nmB N__law_rules (defScope s__law_rules) "_law_most" 1 = true := by decide +kernel
local macro_rules | `(tactic| walk_at "n") => `(tactic| first
  | ((with_reducible show WE _ _ _ (.Name (Str.ofString "_law_d") _) _); with_reducible refine we_nm (by with_unfolding_all exact nm__law_rules__law_d) (by with_unfolding_all exact rfl) ?_)
  | ((with_reducible show WE _ _ _ (.Name (Str.ofString "_law_most") _) _); with_reducible refine we_nm (by with_unfolding_all exact nm__law_rules__law_most) (by with_unfolding_all exact rfl) ?_))
local macro_rules | `(tactic| walk_at "lc") => `(tactic| first
  | ((with_reducible show WE _ _ _ (.ListComp _ [⟨.Name (Str.ofString "_law_k") _, _, _, _⟩] _ _) _); with_reducible refine we_lc (own := [(("_law_k" : Str), 2)]) (Tgt.nm 2) (by with_unfolding_all exact rfl) (by with_unfolding_all assumption) (by with_unfolding_all exact blkOk_by rfl) (by with_unfolding_all decide) (fun b => (by with_unfolding_all exact (pg_name (by with_unfolding_all assumption) (by with_unfolding_all exact rfl) (by with_unfolding_all first | exact Or.inl rfl | exact Or.inr rfl) (by with_unfolding_all first | exact .inl rfl | exact .inr rfl)))) ?_ (by with_unfolding_all (intro _; exact rfl))))
/-- _law_rules -/
abbrev F__law_rules (K : PySem.W.Frag) : FSp := fun ws c Q E => ∃ (n : Nat) (dr : Dr) (m : Int), c[n]? = some (.lst dr.l) ∧ dr.ok ∧ 0 ≤ m ∧ m ≤ 100 ∧ ws = [.ce n, .im (.int m)] ∧ ∀ (dr' : Dr) (l : List Ru), dr'.ok → (∀ r ∈ l, r.ok) → (l.length : Int) ≤ m → Q (.im (rusD l)) (c.set n (.lst dr'.l))
theorem ok__law_rules (T : Tx K mg) : HasFn P w K mg base 4 "_law_rules" P__law_rules (F__law_rules K) := by
  obtain ⟨f, fd, hm, Fu⟩ := T.f__law_rules
  refine ⟨f, fd, hm, Fu.kp, fn_w Fu sc__law_rules (fun ws c Q E => ?_) (fun cdv A outer s H E ws c Q Qx hr hF => ?_), Fu.binds fun _ _ _ _ _ _ us hl => match us, hl with | [_, _], _ => rfl⟩
  · rintro ⟨n, dr, m, hn, hd, h1, h2, rfl, hq⟩; rfl
  obtain ⟨n, dr, m, hn, hd, h1, h2, rfl, hq⟩ := hF
  have hnd : N__law_rules.Nodup := sc__law_rules.nd
  change WSs _ _ [_, _, _] _ _ _
  have hn1 : ∀ d : Dr, (c.set n (.lst d.l))[n]? = some (.lst d.l) := fun d => cel_s hn
  refine wss_one ?_
  walk_at "w"
  refine ⟨n, dr, _, hn, hd, by omega, wid_of (by omega) (by omega), rfl, fun dr1 r hd1 h3 h4 => ?_⟩
  walk_at "w"
  refine lc_inv (fun i acc c' => ∃ (d : Dr) (l : List Ru), d.ok ∧ (∀ x ∈ l, x.ok) ∧ l.length = i ∧ acc = l.map Ru.d ∧ c' = c.set n (.lst d.l)) ⟨dr1, [], hd1, by simp, rfl, rfl, rfl⟩ (fun i d acc c' hi hP => ?_) (fun acc c' hP => ?_)
  · obtain ⟨d1, l, hd2, hl1, rfl, rfl, rfl⟩ := hP
    have hil := (rangeD_get hi).1
    refine ⟨by rw [List.length_map]; omega, trivial, fun b => ?_⟩
    walk_at "w"
    refine ⟨n, d1, hn1 d1, hd2, rfl, fun dr2 ru hd3 hru => ?_⟩
    refine ⟨_, rfl, dr2, l ++ [ru], hd3, fun x hx => ?_, by simp, by simp, by rw [List.set_set]⟩
    rcases List.mem_append.mp hx with hx | hx
    · exact hl1 x hx
    · rw [List.mem_singleton.mp hx]; exact hru
  · obtain ⟨d1, l, hd2, hl1, hl2, rfl, rfl⟩ := hP
    rw [rangeD_len] at hl2
    walk_at "w"
    refine RtOk.all ?_
    exact hq d1 l hd2 hl1 (by omega)
local macro_rules | `(tactic| walk_at "call") => `(tactic| ((with_reducible show WE _ _ _ (.Call (.Name (Str.ofString "_law_rules") _) _ _ _) _); with_reducible refine we_callF (ok__law_rules (by assumption)) (by with_unfolding_all exact ⟨rfl, rfl, rfl, rfl, rfl⟩) (by with_unfolding_all exact L2.Room.mono (by assumption) (by decide)) (by with_unfolding_all exact rfl) (by with_unfolding_all exact rfl) (by with_unfolding_all exact rfl) (by with_unfolding_all exact rfl) ?_))
theorem nm_need_small_value : nmB N_need_small (defScope s_need_small) "value" 0 = true := by decide +kernel
local macro_rules | `(tactic| walk_at "n") => `(tactic| first
  | ((with_reducible show WE _ _ _ (.Name (Str.ofString "value") _) _); with_reducible refine we_nm (by with_unfolding_all exact nm_need_small_value) (by with_unfolding_all exact rfl) ?_))
/-- need_small -/
abbrev F_need_small (K : PySem.W.Frag) : FSp := fun ws c Q E => ∃ (d : D), clo c.length c = true ∧ Pl 50 d ∧ ws = [.im d] ∧ (isSmallD d = true → Q (.im .non) c) ∧ (isSmallD d = false → E ⟨He.ga K "BadLand", [], []⟩ c)
theorem ok_need_small (T : Tx K mg) : HasFn P w K mg base 3 "need_small" P_need_small (F_need_small K) := by
  obtain ⟨f, fd, hm, Fu⟩ := T.f_need_small
  refine ⟨f, fd, hm, Fu.kp, fn_w Fu sc_need_small (fun ws c Q E => ?_) (fun cdv A outer s H E ws c Q Qx hr hF => ?_), Fu.binds fun _ _ _ _ _ _ us hl => match us, hl with | [_], _ => rfl⟩
  · rintro ⟨d, hc, hp, rfl, hq, he⟩; rfl
  obtain ⟨d, hc, hp, rfl, hq, he⟩ := hF
  have hnd : N_need_small.Nodup := sc_need_small.nd
  change WSs _ _ [_] _ _ _
  refine wss_cons ?_
  walk_at "w"
  refine ⟨d, hc, hp, rfl, fun hL => ?_, fun hL => ⟨hc, by rw [List.take_length]; exact he (small_no hL)⟩⟩
  obtain ⟨x, y, rfl, hx1, hx2, hy1, hy2⟩ := isLand_inv hL
  unfold G30 at hx2 hy2
  have hwx : Wid x := wid_of (by omega) (by omega)
  have hwy : Wid y := wid_of (by omega) (by omega)
  walk_at "w"
  by_cases h : 400 < x * y
  · walk_at "w"
    exact ⟨hc, by rw [List.take_length]; exact he (small_far h)⟩
  · walk_at "w"
    exact hq (small_of hL (by omega))
local macro_rules | `(tactic| walk_at "call") => `(tactic| ((with_reducible show WE _ _ _ (.Call (.Name (Str.ofString "need_small") _) _ _ _) _); with_reducible refine we_callF (ok_need_small (by assumption)) (by with_unfolding_all exact ⟨rfl, rfl, rfl, rfl, rfl⟩) (by with_unfolding_all exact L2.Room.mono (by assumption) (by decide)) (by with_unfolding_all exact rfl) (by with_unfolding_all exact rfl) (by with_unfolding_all exact rfl) (by with_unfolding_all exact rfl) ?_))
theorem nm_sounds_of_rows : nmB N_sounds_of (defScope s_sounds_of) "rows" 0 = true := by decide +kernel
theorem nm_sounds_of_land : nmB N_sounds_of (defScope s_sounds_of) "land" 1 = true := by decide +kernel
local macro_rules | `(tactic| walk_at "n") => `(tactic| first
  | ((with_reducible show WE _ _ _ (.Name (Str.ofString "rows") _) _); with_reducible refine we_nm (by with_unfolding_all exact nm_sounds_of_rows) (by with_unfolding_all exact rfl) ?_)
  | ((with_reducible show WE _ _ _ (.Name (Str.ofString "land") _) _); with_reducible refine we_nm (by with_unfolding_all exact nm_sounds_of_land) (by with_unfolding_all exact rfl) ?_))
local macro_rules | `(tactic| walk_at "lc") => `(tactic| first
  | ((with_reducible show WE _ _ _ (.ListComp _ [⟨.Name (Str.ofString "moment") _, _, _, _⟩] _ _) _); with_reducible refine we_lc (own := [(("moment" : Str), 2)]) (Tgt.nm 2) (by with_unfolding_all exact rfl) (by with_unfolding_all assumption) (by with_unfolding_all exact blkOk_by rfl) (by with_unfolding_all decide) (fun b => (by with_unfolding_all exact (pg_name (by with_unfolding_all assumption) (by with_unfolding_all exact rfl) (by with_unfolding_all first | exact Or.inl rfl | exact Or.inr rfl) (by with_unfolding_all first | exact .inl rfl | exact .inr rfl)))) ?_ (by with_unfolding_all (intro _; exact rfl))))
/-- sounds_of -/
abbrev F_sounds_of (K : PySem.W.Frag) : FSp := fun ws c Q E => ∃ (l : List Ru) (a b : Int), clo c.length c = true ∧ 2 ≤ a ∧ a ≤ 1000 ∧ 2 ≤ b ∧ b ≤ 1000 ∧ a * b ≤ 10000 ∧ l.length ≤ 1000 ∧ ws = [.im (rusD l), .im (.tup [.int a, .int b])] ∧ Q (.im (.lst (dayL l a b))) c
theorem ok_sounds_of (T : Tx K mg) : HasFn P w K mg base 4 "sounds_of" P_sounds_of (F_sounds_of K) := by
  obtain ⟨f, fd, hm, Fu⟩ := T.f_sounds_of
  refine ⟨f, fd, hm, Fu.kp, fn_w Fu sc_sounds_of (fun ws c Q E => ?_) (fun cdv A outer s H E ws c Q Qx hr hF => ?_), Fu.binds fun _ _ _ _ _ _ us hl => match us, hl with | [_, _], _ => rfl⟩
  · rintro ⟨l, a, b, hc, ha, ha2, hb, hb2, hab2, hl, rfl, hq⟩; rfl
  obtain ⟨l, a, b, hc, ha, ha2, hb, hb2, hab2, hl, rfl, hq⟩ := hF
  have hnd : N_sounds_of.Nodup := sc_sounds_of.nd
  change WSs _ _ [_, _, _] _ _ _
  have hab : 0 ≤ a * b := Int.mul_nonneg (by omega) (by omega)
  have hwa : Wid a := wid_of (by omega) (by omega)
  have hwb : Wid b := wid_of (by omega) (by omega)
  refine wss_one ?_
  walk_at "w"
  refine lc_list (dayL l a b) (by rw [dayL_len, rangeD_len]) (by rw [rangeD_len]; omega) (fun i d e hd he => ⟨trivial, fun bk => ?_⟩) ?_
  · obtain ⟨hi, rfl⟩ := rangeD_get hd
    rw [dayL_get (by omega)] at he
    have he := Option.some.inj he
    subst he
    have hx2 : (i : Int) < a * b := by omega
    have hh0 : 0 ≤ (i : Int) / b := Int.ediv_nonneg (by omega) (by omega)
    have hh1 : (i : Int) / b < a := Int.ediv_lt_of_lt_mul (by omega) hx2
    walk_at "w"
    refine ⟨l, _, a, b, hc, by omega, by omega, hl, wid_of (by omega) (by omega), hwa, hwb, rfl, ?_⟩
    refine ⟨?_, rfl⟩
    rw [Int.zero_add, Int.emod_eq_of_lt hh0 hh1]
  · walk_at "w"
local macro_rules | `(tactic| walk_at "call") => `(tactic| ((with_reducible show WE _ _ _ (.Call (.Name (Str.ofString "sounds_of") _) _ _ _) _); with_reducible refine we_callF (ok_sounds_of (by assumption)) (by with_unfolding_all exact ⟨rfl, rfl, rfl, rfl, rfl⟩) (by with_unfolding_all exact L2.Room.mono (by assumption) (by decide)) (by with_unfolding_all exact rfl) (by with_unfolding_all exact rfl) (by with_unfolding_all exact rfl) (by with_unfolding_all exact rfl) ?_))
theorem nm_sorts_of_many : nmB N_sorts_of (defScope s_sorts_of) "many" 0 = true := by decide +kernel
theorem nm_sorts_of_ends : nmB N_sorts_of (defScope s_sorts_of) "ends" 1 = true := by decide +kernel
theorem st_sorts_of_ends : stB N_sorts_of (defScope s_sorts_of) "ends" 1 = true := by decide +kernel
local macro_rules | `(tactic| walk_at "n") => `(tactic| first
  | ((with_reducible show WE _ _ _ (.Name (Str.ofString "many") _) _); with_reducible refine we_nm (by with_unfolding_all exact nm_sorts_of_many) (by with_unfolding_all exact rfl) ?_)
  | ((with_reducible show WE _ _ _ (.Name (Str.ofString "ends") _) _); with_reducible refine we_nm (by with_unfolding_all exact nm_sorts_of_ends) (by with_unfolding_all exact rfl) ?_))
local macro_rules | `(tactic| walk_at "set") => `(tactic| first
  | ((with_reducible show WS _ _ _ _ (.Assign [.Name (Str.ofString "ends") _] _ _) _); with_reducible refine ws_st (by with_unfolding_all exact st_sorts_of_ends) (by with_unfolding_all assumption) (by with_unfolding_all exact rfl) (by with_unfolding_all exact rfl) ?_))
local macro_rules | `(tactic| walk_at "aug") => `(tactic| first
  | ((with_reducible show WS _ _ _ _ (.AugAssign (.Name (Str.ofString "ends") _) _ _ _) _); with_reducible refine ws_ag (by with_unfolding_all exact st_sorts_of_ends) (by with_unfolding_all assumption) (by with_unfolding_all exact rfl) (by with_unfolding_all exact rfl) ?_))
local macro_rules | `(tactic| walk_at "lc") => `(tactic| first
  | ((with_reducible show WE _ _ _ (.ListComp _ [⟨.Name (Str.ofString "place") _, _, _, _⟩] _ _) _); with_reducible refine we_lc (own := [(("place" : Str), 2)]) (Tgt.nm 2) (by with_unfolding_all exact rfl) (by with_unfolding_all assumption) (by with_unfolding_all exact blkOk_by rfl) (by with_unfolding_all decide) (fun b => (by with_unfolding_all exact (pg_name (by with_unfolding_all assumption) (by with_unfolding_all exact rfl) (by with_unfolding_all first | exact Or.inl rfl | exact Or.inr rfl) (by with_unfolding_all first | exact .inl rfl | exact .inr rfl)))) ?_ (by with_unfolding_all (intro _; exact rfl))))
local macro_rules | `(tactic| walk_at "lset") => `(tactic| first
  | ((with_reducible show WS _ _ _ _ (.Assign [.Name (Str.ofString "ends") _] (.ListComp _ [⟨.Name (Str.ofString "place") _, _, _, _⟩] _ _) _) _); with_reducible refine ws_setLc (own := [(("place" : Str), 2)]) (Tgt.nm 2) (by with_unfolding_all exact rfl) (by with_unfolding_all assumption) (by with_unfolding_all exact rfl) (by with_unfolding_all exact blkOk_by rfl) (by with_unfolding_all decide) (fun b => (by with_unfolding_all exact (pg_name (by with_unfolding_all assumption) (by with_unfolding_all exact rfl) (by with_unfolding_all first | exact Or.inl rfl | exact Or.inr rfl) (by with_unfolding_all first | exact .inl rfl | exact .inr rfl)))) ?_ (by with_unfolding_all exact rfl) (by with_unfolding_all exact rfl) (by with_unfolding_all (intro _; exact rfl))))
/-- sorts_of -/
abbrev F_sorts_of (K : PySem.W.Frag) : FSp := fun ws c Q E => ∃ (n : Int), 2 ≤ n ∧ n ≤ G30 ∧ ws = [.im (.int n)] ∧ Q (.im (.lst ((sortsL n).map triD))) c
theorem ok_sorts_of (T : Tx K mg) : HasFn P w K mg base 1 "sorts_of" P_sorts_of (F_sorts_of K) := by
  obtain ⟨f, fd, hm, Fu⟩ := T.f_sorts_of
  refine ⟨f, fd, hm, Fu.kp, fn_w Fu sc_sorts_of (fun ws c Q E => ?_) (fun cdv A outer s H E ws c Q Qx hr hF => ?_), Fu.binds fun _ _ _ _ _ _ us hl => match us, hl with | [_], _ => rfl⟩
  · rintro ⟨n, h2, hg, rfl, hq⟩; rfl
  obtain ⟨n, h2, hg, rfl, hq⟩ := hF
  have hnd : N_sorts_of.Nodup := sc_sorts_of.nd
  change WSs _ _ [_, _, _] _ _ _
  unfold G30 at hg
  have hw1 : Wid (n - 2) := wid_of (by omega) (by omega)
  have hw2 : Wid (n - 1) := wid_of (by omega) (by omega)
  refine wss_cons ?_
  walk_at "w"
  by_cases h5 : n ≤ 5
  · refine iteDP h5 ?_
    walk_at "w"
    refine lc_list ((sortsL n).map triD) (by rw [sorts_few h5, List.length_map, List.length_map, List.length_range, rangeD_len]) (by rw [rangeD_len]; omega) (fun i d e hd he => ⟨trivial, fun b => ?_⟩) ?_
    · obtain ⟨hi, rfl⟩ := rangeD_get hd
      rw [sorts_few h5, List.getElem?_map, List.getElem?_map, List.getElem?_range hi] at he
      have he := Option.some.inj he
      subst he
      walk_at "w"
      refine ⟨?_, rfl⟩
      rw [Int.zero_add]; rfl
    · walk_at "w"
  · refine iteDN h5 ?_
    rw [sorts_many h5] at hq
    walk_at "w"
    refine wi_tup ?_
    walk_at "w"
    refine lc_map (fun d => match d with | .int i => triD (endL i) | _ => .non) (Nat.le_of_ble_eq_true rfl) (fun i d hd => ⟨trivial, fun b => ?_⟩) ?_
    · obtain ⟨x, rfl⟩ : ∃ x, d = .int x := by
        have := List.mem_of_getElem? hd
        simp only [List.mem_cons, List.not_mem_nil, or_false] at this
        rcases this with rfl | rfl | rfl | rfl <;> exact ⟨_, rfl⟩
      walk_at "w"
      exact ⟨rfl, rfl⟩
    · walk_at "w"
      refine ⟨_, .inr rfl, ?_⟩
      walk_at "w"
local macro_rules | `(tactic| walk_at "call") => `(tactic| ((with_reducible show WE _ _ _ (.Call (.Name (Str.ofString "sorts_of") _) _ _ _) _); with_reducible refine we_callF (ok_sorts_of (by assumption)) (by with_unfolding_all exact ⟨rfl, rfl, rfl, rfl, rfl⟩) (by with_unfolding_all exact L2.Room.mono (by assumption) (by decide)) (by with_unfolding_all exact rfl) (by with_unfolding_all exact rfl) (by with_unfolding_all exact rfl) (by with_unfolding_all exact rfl) ?_))
theorem nm_strokes_clock : nmB N_strokes (defScope s_strokes) "clock" 0 = true := by decide +kernel
theorem nm_strokes_land : nmB N_strokes (defScope s_strokes) "land" 1 = true := by decide +kernel
theorem nm_strokes_total : nmB N_strokes (defScope s_strokes) "total" 2 = true := by decide +kernel
theorem st_strokes_total : stB N_strokes (defScope s_strokes) "total" 2 = true := by decide +kernel
theorem nm_strokes_hour : nmB N_strokes (defScope s_strokes) "hour" 3 = true := by decide +kernel
theorem st_strokes_hour : stB N_strokes (defScope s_strokes) "hour" 3 = true := by decide +kernel
theorem nm_strokes_many_hours : nmB N_strokes (defScope s_strokes) "many_hours" 4 = true := by decide +kernel
theorem st_strokes_many_hours : stB N_strokes (defScope s_strokes) "many_hours" 4 = true := by decide +kernel
theorem nm_strokes_hour_sum : nmB N_strokes (defScope s_strokes) "hour_sum" 5 = true := by decide +kernel
theorem st_strokes_hour_sum : stB N_strokes (defScope s_strokes) "hour_sum" 5 = true := by decide +kernel
theorem nm_strokes_part : nmB N_strokes (defScope s_strokes) "part" 6 = true := by decide +kernel
theorem st_strokes_part : stB N_strokes (defScope s_strokes) "part" 6 = true := by decide +kernel
theorem nm_strokes_many_parts : nmB N_strokes (defScope s_strokes) "many_parts" 7 = true := by decide +kernel
theorem st_strokes_many_parts : stB N_strokes (defScope s_strokes) "many_parts" 7 = true := by decide +kernel
theorem nm_strokes_part_sum : nmB N_strokes (defScope s_strokes) "part_sum" 8 = true := by decide +kernel
theorem st_strokes_part_sum : stB N_strokes (defScope s_strokes) "part_sum" 8 = true := by decide +kernel
theorem nm_strokes_often : nmB N_strokes (defScope s_strokes) "often" 9 = true := by decide +kernel
theorem st_strokes_often : stB N_strokes (defScope s_strokes) "often" 9 = true := by decide +kernel
local macro_rules | `(tactic| walk_at "n") => `(tactic| first
  | ((with_reducible show WE _ _ _ (.Name (Str.ofString "clock") _) _); with_reducible refine we_nm (by with_unfolding_all exact nm_strokes_clock) (by with_unfolding_all exact rfl) ?_)
  | ((with_reducible show WE _ _ _ (.Name (Str.ofString "land") _) _); with_reducible refine we_nm (by with_unfolding_all exact nm_strokes_land) (by with_unfolding_all exact rfl) ?_)
  | ((with_reducible show WE _ _ _ (.Name (Str.ofString "total") _) _); with_reducible refine we_nm (by with_unfolding_all exact nm_strokes_total) (by with_unfolding_all exact rfl) ?_)
  | ((with_reducible show WE _ _ _ (.Name (Str.ofString "hour") _) _); with_reducible refine we_nm (by with_unfolding_all exact nm_strokes_hour) (by with_unfolding_all exact rfl) ?_)
  | ((with_reducible show WE _ _ _ (.Name (Str.ofString "many_hours") _) _); with_reducible refine we_nm (by with_unfolding_all exact nm_strokes_many_hours) (by with_unfolding_all exact rfl) ?_)
  | ((with_reducible show WE _ _ _ (.Name (Str.ofString "hour_sum") _) _); with_reducible refine we_nm (by with_unfolding_all exact nm_strokes_hour_sum) (by with_unfolding_all exact rfl) ?_)
  | ((with_reducible show WE _ _ _ (.Name (Str.ofString "part") _) _); with_reducible refine we_nm (by with_unfolding_all exact nm_strokes_part) (by with_unfolding_all exact rfl) ?_)
  | ((with_reducible show WE _ _ _ (.Name (Str.ofString "many_parts") _) _); with_reducible refine we_nm (by with_unfolding_all exact nm_strokes_many_parts) (by with_unfolding_all exact rfl) ?_)
  | ((with_reducible show WE _ _ _ (.Name (Str.ofString "part_sum") _) _); with_reducible refine we_nm (by with_unfolding_all exact nm_strokes_part_sum) (by with_unfolding_all exact rfl) ?_)
  | ((with_reducible show WE _ _ _ (.Name (Str.ofString "often") _) _); with_reducible refine we_nm (by with_unfolding_all exact nm_strokes_often) (by with_unfolding_all exact rfl) ?_))
local macro_rules | `(tactic| walk_at "set") => `(tactic| first
  | ((with_reducible show WS _ _ _ _ (.Assign [.Name (Str.ofString "total") _] _ _) _); with_reducible refine ws_st (by with_unfolding_all exact st_strokes_total) (by with_unfolding_all assumption) (by with_unfolding_all exact rfl) (by with_unfolding_all exact rfl) ?_)
  | ((with_reducible show WS _ _ _ _ (.Assign [.Name (Str.ofString "hour") _] _ _) _); with_reducible refine ws_st (by with_unfolding_all exact st_strokes_hour) (by with_unfolding_all assumption) (by with_unfolding_all exact rfl) (by with_unfolding_all exact rfl) ?_)
  | ((with_reducible show WS _ _ _ _ (.Assign [.Name (Str.ofString "many_hours") _] _ _) _); with_reducible refine ws_st (by with_unfolding_all exact st_strokes_many_hours) (by with_unfolding_all assumption) (by with_unfolding_all exact rfl) (by with_unfolding_all exact rfl) ?_)
  | ((with_reducible show WS _ _ _ _ (.Assign [.Name (Str.ofString "hour_sum") _] _ _) _); with_reducible refine ws_st (by with_unfolding_all exact st_strokes_hour_sum) (by with_unfolding_all assumption) (by with_unfolding_all exact rfl) (by with_unfolding_all exact rfl) ?_)
  | ((with_reducible show WS _ _ _ _ (.Assign [.Name (Str.ofString "part") _] _ _) _); with_reducible refine ws_st (by with_unfolding_all exact st_strokes_part) (by with_unfolding_all assumption) (by with_unfolding_all exact rfl) (by with_unfolding_all exact rfl) ?_)
  | ((with_reducible show WS _ _ _ _ (.Assign [.Name (Str.ofString "many_parts") _] _ _) _); with_reducible refine ws_st (by with_unfolding_all exact st_strokes_many_parts) (by with_unfolding_all assumption) (by with_unfolding_all exact rfl) (by with_unfolding_all exact rfl) ?_)
  | ((with_reducible show WS _ _ _ _ (.Assign [.Name (Str.ofString "part_sum") _] _ _) _); with_reducible refine ws_st (by with_unfolding_all exact st_strokes_part_sum) (by with_unfolding_all assumption) (by with_unfolding_all exact rfl) (by with_unfolding_all exact rfl) ?_)
  | ((with_reducible show WS _ _ _ _ (.Assign [.Name (Str.ofString "often") _] _ _) _); with_reducible refine ws_st (by with_unfolding_all exact st_strokes_often) (by with_unfolding_all assumption) (by with_unfolding_all exact rfl) (by with_unfolding_all exact rfl) ?_))
local macro_rules | `(tactic| walk_at "aug") => `(tactic| first
  | ((with_reducible show WS _ _ _ _ (.AugAssign (.Name (Str.ofString "total") _) _ _ _) _); with_reducible refine ws_ag (by with_unfolding_all exact st_strokes_total) (by with_unfolding_all assumption) (by with_unfolding_all exact rfl) (by with_unfolding_all exact rfl) ?_)
  | ((with_reducible show WS _ _ _ _ (.AugAssign (.Name (Str.ofString "hour") _) _ _ _) _); with_reducible refine ws_ag (by with_unfolding_all exact st_strokes_hour) (by with_unfolding_all assumption) (by with_unfolding_all exact rfl) (by with_unfolding_all exact rfl) ?_)
  | ((with_reducible show WS _ _ _ _ (.AugAssign (.Name (Str.ofString "many_hours") _) _ _ _) _); with_reducible refine ws_ag (by with_unfolding_all exact st_strokes_many_hours) (by with_unfolding_all assumption) (by with_unfolding_all exact rfl) (by with_unfolding_all exact rfl) ?_)
  | ((with_reducible show WS _ _ _ _ (.AugAssign (.Name (Str.ofString "hour_sum") _) _ _ _) _); with_reducible refine ws_ag (by with_unfolding_all exact st_strokes_hour_sum) (by with_unfolding_all assumption) (by with_unfolding_all exact rfl) (by with_unfolding_all exact rfl) ?_)
  | ((with_reducible show WS _ _ _ _ (.AugAssign (.Name (Str.ofString "part") _) _ _ _) _); with_reducible refine ws_ag (by with_unfolding_all exact st_strokes_part) (by with_unfolding_all assumption) (by with_unfolding_all exact rfl) (by with_unfolding_all exact rfl) ?_)
  | ((with_reducible show WS _ _ _ _ (.AugAssign (.Name (Str.ofString "many_parts") _) _ _ _) _); with_reducible refine ws_ag (by with_unfolding_all exact st_strokes_many_parts) (by with_unfolding_all assumption) (by with_unfolding_all exact rfl) (by with_unfolding_all exact rfl) ?_)
  | ((with_reducible show WS _ _ _ _ (.AugAssign (.Name (Str.ofString "part_sum") _) _ _ _) _); with_reducible refine ws_ag (by with_unfolding_all exact st_strokes_part_sum) (by with_unfolding_all assumption) (by with_unfolding_all exact rfl) (by with_unfolding_all exact rfl) ?_)
  | ((with_reducible show WS _ _ _ _ (.AugAssign (.Name (Str.ofString "often") _) _ _ _) _); with_reducible refine ws_ag (by with_unfolding_all exact st_strokes_often) (by with_unfolding_all assumption) (by with_unfolding_all exact rfl) (by with_unfolding_all exact rfl) ?_))
local macro_rules | `(tactic| walk_at "for") => `(tactic| first
  | ((with_reducible show WS _ _ _ _ (.For (.Tuple [.Name (Str.ofString "hour") _, .Name (Str.ofString "many_hours") _, .Name (Str.ofString "hour_sum") _] _ _) _ _ _ _) _); with_reducible refine ws_forF (Tgt.tp [3, 4, 5]) (by with_unfolding_all exact rfl) (by with_unfolding_all exact (pg_tup (by with_unfolding_all exact rfl) (pgs_cons (pg_name (by with_unfolding_all assumption) (by with_unfolding_all exact rfl) (by with_unfolding_all first | exact Or.inl rfl | exact Or.inr rfl) (by with_unfolding_all first | exact .inl rfl | exact .inr rfl)) (pgs_cons (pg_name (by with_unfolding_all assumption) (by with_unfolding_all exact rfl) (by with_unfolding_all first | exact Or.inl rfl | exact Or.inr rfl) (by with_unfolding_all first | exact .inl rfl | exact .inr rfl)) (pgs_cons (pg_name (by with_unfolding_all assumption) (by with_unfolding_all exact rfl) (by with_unfolding_all first | exact Or.inl rfl | exact Or.inr rfl) (by with_unfolding_all first | exact .inl rfl | exact .inr rfl)) (pgs_nil) (by with_unfolding_all exact rfl)) (by with_unfolding_all exact rfl)) (by with_unfolding_all exact rfl)) (by with_unfolding_all exact rfl) (by with_unfolding_all exact rfl))) (by with_unfolding_all (intro _; exact rfl)) ?_)
  | ((with_reducible show WS _ _ _ _ (.For (.Tuple [.Name (Str.ofString "part") _, .Name (Str.ofString "many_parts") _, .Name (Str.ofString "part_sum") _] _ _) _ _ _ _) _); with_reducible refine ws_forF (Tgt.tp [6, 7, 8]) (by with_unfolding_all exact rfl) (by with_unfolding_all exact (pg_tup (by with_unfolding_all exact rfl) (pgs_cons (pg_name (by with_unfolding_all assumption) (by with_unfolding_all exact rfl) (by with_unfolding_all first | exact Or.inl rfl | exact Or.inr rfl) (by with_unfolding_all first | exact .inl rfl | exact .inr rfl)) (pgs_cons (pg_name (by with_unfolding_all assumption) (by with_unfolding_all exact rfl) (by with_unfolding_all first | exact Or.inl rfl | exact Or.inr rfl) (by with_unfolding_all first | exact .inl rfl | exact .inr rfl)) (pgs_cons (pg_name (by with_unfolding_all assumption) (by with_unfolding_all exact rfl) (by with_unfolding_all first | exact Or.inl rfl | exact Or.inr rfl) (by with_unfolding_all first | exact .inl rfl | exact .inr rfl)) (pgs_nil) (by with_unfolding_all exact rfl)) (by with_unfolding_all exact rfl)) (by with_unfolding_all exact rfl)) (by with_unfolding_all exact rfl) (by with_unfolding_all exact rfl))) (by with_unfolding_all (intro _; exact rfl)) ?_)
  | ((with_reducible show WS _ _ _ _ (.For (.Name (Str.ofString "often") _) _ _ _ _) _); with_reducible refine ws_forF (Tgt.nm 9) (by with_unfolding_all exact rfl) (by with_unfolding_all exact (pg_name (by with_unfolding_all assumption) (by with_unfolding_all exact rfl) (by with_unfolding_all first | exact Or.inl rfl | exact Or.inr rfl) (by with_unfolding_all first | exact .inl rfl | exact .inr rfl))) (by with_unfolding_all (intro _; exact rfl)) ?_))
/-- strokes -/
abbrev F_strokes (K : PySem.W.Frag) : FSp := fun ws c Q E => ∃ (l : List Ru) (d : D), clo c.length c = true ∧ (∀ r ∈ l, r.ok) ∧ l.length ≤ 1000 ∧ Pl 50 d ∧ ws = [.im (clockD K l), .im d] ∧ (isLandD d G30 = false → E ⟨He.ga K "BadLand", [], []⟩ c) ∧ (∀ x y, d = .tup [.int x, .int y] → isLandD d G30 = true → Q (.im (.int (strL l x y))) c)
theorem ok_strokes (T : Tx K mg) : HasFn P w K mg base 3 "strokes" P_strokes (F_strokes K) := by
  obtain ⟨f, fd, hm, Fu⟩ := T.f_strokes
  refine ⟨f, fd, hm, Fu.kp, fn_w Fu sc_strokes (fun ws c Q E => ?_) (fun cdv A outer s H E ws c Q Qx hr hF => ?_), Fu.binds fun _ _ _ _ _ _ us hl => match us, hl with | [_, _], _ => rfl⟩
  · rintro ⟨l, d, hc, hok, hl, hp, rfl, he, hq⟩; rfl
  obtain ⟨l, d, hc, hok, hl, hp, rfl, he, hq⟩ := hF
  have hnd : N_strokes.Nodup := sc_strokes.nd
  change WSs _ _ [_, _, _, _, _, _, _, _, _, _] _ _ _
  refine wss_cons ?_
  walk_at "w"
  refine ⟨d, hc, hp, rfl, fun hL => ?_, fun hL => ⟨hc, by rw [List.take_length]; exact he hL⟩⟩
  obtain ⟨x, y, rfl, hx1, hx2, hy1, hy2⟩ := isLand_inv hL
  have hq := hq x y rfl hL
  have hx2' := hx2
  have hy2' := hy2
  unfold clockD
  walk_at "w"
  refine wi_seq ?_
  walk_at "w"
  refine ⟨x, hx1, hx2, rfl, ?_⟩
  refine ⟨_, .inl rfl, ?_⟩
  refine forask (fun i ρ' c' => c = c' ∧ ∃ x3 x4 x5 x6 x7 x8 x9, ρ' = [some (.im (.obj (He.ga K "Clock") ["rows"] [rusD l])), some (.im (.tup [.int x, .int y])), some (.im (.int (((sortsL x).take i).map (strX l x y)).sum)), x3, x4, x5, x6, x7, x8, x9]) ⟨rfl, _, _, _, _, _, _, _, rfl⟩ (fun i d ρ' c' hd hP => ?_) (fun ρ' c' hP => ?_)
  · obtain ⟨rfl, x3, x4, x5, x6, x7, x8, x9, rfl⟩ := hP
    rw [List.getElem?_map] at hd
    obtain ⟨u, hu, rfl⟩ := Option.map_eq_some_iff.mp hd
    obtain ⟨hwu1, hwu2⟩ := sorts_wid hx1 hx2 u (List.mem_of_getElem? hu)
    refine ⟨⟨_, rfl, rfl⟩, ?_⟩
    change WSs _ _ [_, _, _, _, _, _, _, _, _, _] _ _ _
    rw [take_succ_get hu, List.map_append, List.sum_append]
    generalize (((sortsL x).take i).map (strX l x y)).sum = S0
    walk_at "w"
    refine wi_seq ?_
    walk_at "w"
    refine ⟨y, hy1, hy2, rfl, ?_⟩
    refine ⟨_, .inl rfl, ?_⟩
    refine forask (fun j ρ' c' => c = c' ∧ ∃ x6 x7 x8 x9, ρ' = [some (.im (.obj (He.ga K "Clock") ["rows"] [rusD l])), some (.im (.tup [.int x, .int y])), some (.im (.int (S0 + (((sortsL y).take j).map (strXY l x y u)).sum))), some (.im (.int u.1)), some (.im (.int u.2.1)), some (.im (.int u.2.2)), x6, x7, x8, x9]) ⟨rfl, x6, x7, x8, x9, by simp⟩ (fun j d ρ' c' hd hP => ?_) (fun ρ' c' hP => ?_)
    · obtain ⟨rfl, x6, x7, x8, x9, rfl⟩ := hP
      rw [List.getElem?_map] at hd
      obtain ⟨v, hv, rfl⟩ := Option.map_eq_some_iff.mp hd
      obtain ⟨hwv1, hwv2⟩ := sorts_wid hy1 hy2 v (List.mem_of_getElem? hv)
      refine ⟨⟨_, rfl, rfl⟩, ?_⟩
      change WSs _ _ [_, _, _, _, _, _, _, _, _, _] _ _ _
      rw [take_succ_get hv, List.map_append, List.sum_append]
      generalize (((sortsL y).take j).map (strXY l x y u)).sum = S1
      walk_at "w"
      refine ⟨l, _, _, x, y, hc, by omega, by omega, hl, rfl, Or.inr ?_⟩
      refine ⟨_, _, rfl, rfl, hc, ?_⟩
      refine forask (fun k ρ' c' => c = c' ∧ ∃ x9, ρ' = [some (.im (.obj (He.ga K "Clock") ["rows"] [rusD l])), some (.im (.tup [.int x, .int y])), some (.im (.int (S0 + S1 + (((struckL l x y u.1 v.1).take k).map fun z => z.2.tot u.2.1 u.2.2 v.2.1 v.2.2).sum))), some (.im (.int u.1)), some (.im (.int u.2.1)), some (.im (.int u.2.2)), some (.im (.int v.1)), some (.im (.int v.2.1)), some (.im (.int v.2.2)), x9]) ⟨rfl, x9, by simp⟩ (fun k d ρ' c' hd hP => ?_) (fun ρ' c' hP => ?_)
      · obtain ⟨rfl, x9, rfl⟩ := hP
        unfold stV at hd
        rw [List.getElem?_map] at hd
        obtain ⟨z, hz, rfl⟩ := Option.map_eq_some_iff.mp hd
        have hzo := struck_ok hok (List.mem_of_getElem? hz)
        refine ⟨trivial, ?_⟩
        change WSs _ _ [_, _, _, _, _, _, _, _, _, _] _ _ _
        rw [take_succ_get hz, List.map_append, List.sum_append]
        generalize (((struckL l x y u.1 v.1).take k).map fun z => z.2.tot u.2.1 u.2.2 v.2.1 v.2.2).sum = S2
        have fin : ∀ T : Int, T = z.2.tot u.2.1 u.2.2 v.2.1 v.2.2 → S0 + S1 + (S2 + ([z].map fun z => z.2.tot u.2.1 u.2.2 v.2.1 v.2.2).sum) = S0 + S1 + S2 + T := fun T e => by
          rw [e]; simp only [List.map_cons, List.map_nil, List.sum_cons, List.sum_nil]; omega
        generalize z.2 = o at *
        cases o with
        | times n =>
          have hwn : Wid n := wid_of (by have := hzo.1; omega) (by have := hzo.2; omega)
          have hwm : Wid (n * u.2.1) := times_wid hzo hwu1
          have hwm2 : Wid v.2.1 := wid_of (by omega) (by omega)
          have hwm3 : Wid u.2.1 := wid_of (by omega) (by omega)
          dsimp only [Of.d]
          walk_at "w"
          exact ⟨rfl, _, by rw [fin _ rfl]; rfl⟩
        | hours =>
          have hwm2 : Wid v.2.1 := wid_of (by omega) (by omega)
          have hwm3 : Wid u.2.2 := wid_of (by omega) (by omega)
          dsimp only [Of.d]
          walk_at "w"
          exact ⟨rfl, _, by rw [fin _ rfl]; rfl⟩
        | parts =>
          have hwm2 : Wid v.2.2 := wid_of (by omega) (by omega)
          have hwm3 : Wid u.2.1 := wid_of (by omega) (by omega)
          dsimp only [Of.d]
          walk_at "w"
          exact ⟨rfl, _, by rw [fin _ rfl]; rfl⟩
      · obtain ⟨rfl, x9, rfl⟩ := hP
        refine ⟨rfl, some (.im (.int v.1)), some (.im (.int v.2.1)), some (.im (.int v.2.2)), x9, ?_⟩
        have : (stV (struckL l x y u.1 v.1)).length = (struckL l x y u.1 v.1).length := by unfold stV; rw [List.length_map]
        rw [this, List.take_length, Int.add_assoc]
        simp [strXY]
    · obtain ⟨rfl, x6, x7, x8, x9, rfl⟩ := hP
      refine ⟨rfl, some (.im (.int u.1)), some (.im (.int u.2.1)), some (.im (.int u.2.2)), x6, x7, x8, x9, ?_⟩
      rw [List.length_map, List.take_length]
      simp [strX]
  · obtain ⟨rfl, x3, x4, x5, x6, x7, x8, x9, rfl⟩ := hP
    rw [List.length_map, List.take_length]
    walk_at "w"
local macro_rules | `(tactic| walk_at "call") => `(tactic| ((with_reducible show WE _ _ _ (.Call (.Name (Str.ofString "strokes") _) _ _ _) _); with_reducible refine we_callF (ok_strokes (by assumption)) (by with_unfolding_all exact ⟨rfl, rfl, rfl, rfl, rfl⟩) (by with_unfolding_all exact L2.Room.mono (by assumption) (by decide)) (by with_unfolding_all exact rfl) (by with_unfolding_all exact rfl) (by with_unfolding_all exact rfl) (by with_unfolding_all exact rfl) ?_))
theorem nm_lands_to_most : nmB N_lands_to (defScope s_lands_to) "most" 0 = true := by decide +kernel
local macro_rules | `(tactic| walk_at "n") => `(tactic| first
  | ((with_reducible show WE _ _ _ (.Name (Str.ofString "most") _) _); with_reducible refine we_nm (by with_unfolding_all exact nm_lands_to_most) (by with_unfolding_all exact rfl) ?_))
local macro_rules | `(tactic| walk_at "lc") => `(tactic| first
  | ((with_reducible show WE _ _ _ (.ListComp _ [⟨.Name (Str.ofString "h") _, _, _, _⟩, ⟨.Name (Str.ofString "q") _, _, _, _⟩] _ _) _); with_reducible refine we_lc2 (own := [(("h" : Str), 1), (("q" : Str), 2)]) (vs1 := [2]) (Tgt.nm 1) (Tgt.nm 2) (by with_unfolding_all exact rfl) (by with_unfolding_all assumption) (by with_unfolding_all exact blkOk_by rfl) (by with_unfolding_all decide) (by with_unfolding_all decide) (by with_unfolding_all decide) (fun b => (by with_unfolding_all exact (pg_name (by with_unfolding_all assumption) (by with_unfolding_all exact rfl) (by with_unfolding_all first | exact Or.inl rfl | exact Or.inr rfl) (by with_unfolding_all first | exact .inl rfl | exact .inr rfl)))) (fun b => (by with_unfolding_all exact (pg_name (by with_unfolding_all assumption) (by with_unfolding_all exact rfl) (by with_unfolding_all first | exact Or.inl rfl | exact Or.inr rfl) (by with_unfolding_all first | exact .inl rfl | exact .inr rfl)))) ?_ (by with_unfolding_all (intro _; exact rfl)) (by with_unfolding_all (intro _ _; exact rfl))))
/-- lands_to -/
abbrev F_lands_to (K : PySem.W.Frag) : FSp := fun ws c Q E => ∃ (m : Nat), okM m = true ∧ 2 ≤ m ∧ m ≤ 100 ∧ ws = [.im (.int (m : Nat))] ∧ Q (.im (.lst ((landsL m).map prD))) c
theorem ok_lands_to (T : Tx K mg) : HasFn P w K mg base 1 "lands_to" P_lands_to (F_lands_to K) := by
  obtain ⟨f, fd, hm, Fu⟩ := T.f_lands_to
  refine ⟨f, fd, hm, Fu.kp, fn_w Fu sc_lands_to (fun ws c Q E => ?_) (fun cdv A outer s H E ws c Q Qx hr hF => ?_), Fu.binds fun _ _ _ _ _ _ us hl => match us, hl with | [_], _ => rfl⟩
  · rintro ⟨m, hm, h2, h100, rfl, hq⟩; rfl
  obtain ⟨m, hm, h2, h100, rfl, hq⟩ := hF
  have hnd : N_lands_to.Nodup := sc_lands_to.nd
  change WSs _ _ [_, _, _] _ _ _
  obtain ⟨n, rfl⟩ : ∃ n, m = n + 1 := ⟨m - 1, by omega⟩
  have hsz : n * n ≤ 1000000 := Nat.le_trans (Nat.mul_le_mul (show n ≤ 100 by omega) (show n ≤ 100 by omega)) (by decide)
  have hr : ((((n + 1 : Nat) : Int) + 1 - 2).toNat) = n := by omega
  refine wss_one ?_
  walk_at "w"
  refine ⟨_, _, rfl, rfl, ?_⟩
  rw [hr]
  refine ⟨(List.range n).map fun (i : Nat) => (List.range n).map fun (j : Nat) => prD (((i + 2 : Nat) : Int), ((j + 2 : Nat) : Int)), by rw [List.length_map, List.length_range, rangeD_len], by rw [flat_pairs, List.length_map, pairs_len]; exact hsz, fun i d row hd hrow => ?_, ?_⟩
  · obtain ⟨hi, rfl⟩ := rangeD_get hd
    rw [List.getElem?_map, List.getElem?_range hi] at hrow
    have hrow := Option.some.inj hrow
    subst hrow
    refine ⟨trivial, fun b => ?_⟩
    walk_at "w"
    refine ⟨_, _, rfl, rfl, ?_⟩
    rw [hr]
    refine ⟨rfl, by rw [rangeD_len, List.length_map, List.length_range], fun j e r he hr2 => ?_⟩
    obtain ⟨hj, rfl⟩ := rangeD_get he
    rw [List.getElem?_map, List.getElem?_range hj] at hr2
    have hr2 := Option.some.inj hr2
    subst hr2
    refine ⟨trivial, fun b2 => ?_⟩
    walk_at "w"
    refine ⟨?_, rfl⟩
    unfold prD
    have e1 : (2 : Int) + (i : Int) = ((i + 2 : Nat) : Int) := by omega
    have e2 : (2 : Int) + (j : Int) = ((j + 2 : Nat) : Int) := by omega
    rw [e1, e2]
  · rw [flat_pairs]
    refine ⟨pairsL (n + 1), rfl, by rw [pairs_len]; exact hsz, fun out hs hf => ?_⟩
    rw [lands_sorted hm hs hf]
    walk_at "w"
local macro_rules | `(tactic| walk_at "call") => `(tactic| ((with_reducible show WE _ _ _ (.Call (.Name (Str.ofString "lands_to") _) _ _ _) _); with_reducible refine we_callF (ok_lands_to (by assumption)) (by with_unfolding_all exact ⟨rfl, rfl, rfl, rfl, rfl⟩) (by with_unfolding_all exact L2.Room.mono (by assumption) (by decide)) (by with_unfolding_all exact rfl) (by with_unfolding_all exact rfl) (by with_unfolding_all exact rfl) (by with_unfolding_all exact rfl) ?_))
theorem nm_first_unlike_one : nmB N_first_unlike (defScope s_first_unlike) "one" 0 = true := by decide +kernel
theorem nm_first_unlike_other : nmB N_first_unlike (defScope s_first_unlike) "other" 1 = true := by decide +kernel
theorem nm_first_unlike_land : nmB N_first_unlike (defScope s_first_unlike) "land" 2 = true := by decide +kernel
theorem st_first_unlike_land : stB N_first_unlike (defScope s_first_unlike) "land" 2 = true := by decide +kernel
theorem nm_first_unlike_moment : nmB N_first_unlike (defScope s_first_unlike) "moment" 3 = true := by decide +kernel
theorem st_first_unlike_moment : stB N_first_unlike (defScope s_first_unlike) "moment" 3 = true := by decide +kernel
theorem nm_first_unlike_pair : nmB N_first_unlike (defScope s_first_unlike) "pair" 4 = true := by decide +kernel
theorem st_first_unlike_pair : stB N_first_unlike (defScope s_first_unlike) "pair" 4 = true := by decide +kernel
local macro_rules | `(tactic| walk_at "n") => `(tactic| first
  | ((with_reducible show WE _ _ _ (.Name (Str.ofString "one") _) _); with_reducible refine we_nm (by with_unfolding_all exact nm_first_unlike_one) (by with_unfolding_all exact rfl) ?_)
  | ((with_reducible show WE _ _ _ (.Name (Str.ofString "other") _) _); with_reducible refine we_nm (by with_unfolding_all exact nm_first_unlike_other) (by with_unfolding_all exact rfl) ?_)
  | ((with_reducible show WE _ _ _ (.Name (Str.ofString "land") _) _); with_reducible refine we_nm (by with_unfolding_all exact nm_first_unlike_land) (by with_unfolding_all exact rfl) ?_)
  | ((with_reducible show WE _ _ _ (.Name (Str.ofString "moment") _) _); with_reducible refine we_nm (by with_unfolding_all exact nm_first_unlike_moment) (by with_unfolding_all exact rfl) ?_)
  | ((with_reducible show WE _ _ _ (.Name (Str.ofString "pair") _) _); with_reducible refine we_nm (by with_unfolding_all exact nm_first_unlike_pair) (by with_unfolding_all exact rfl) ?_))
local macro_rules | `(tactic| walk_at "set") => `(tactic| first
  | ((with_reducible show WS _ _ _ _ (.Assign [.Name (Str.ofString "land") _] _ _) _); with_reducible refine ws_st (by with_unfolding_all exact st_first_unlike_land) (by with_unfolding_all assumption) (by with_unfolding_all exact rfl) (by with_unfolding_all exact rfl) ?_)
  | ((with_reducible show WS _ _ _ _ (.Assign [.Name (Str.ofString "moment") _] _ _) _); with_reducible refine ws_st (by with_unfolding_all exact st_first_unlike_moment) (by with_unfolding_all assumption) (by with_unfolding_all exact rfl) (by with_unfolding_all exact rfl) ?_)
  | ((with_reducible show WS _ _ _ _ (.Assign [.Name (Str.ofString "pair") _] _ _) _); with_reducible refine ws_st (by with_unfolding_all exact st_first_unlike_pair) (by with_unfolding_all assumption) (by with_unfolding_all exact rfl) (by with_unfolding_all exact rfl) ?_))
local macro_rules | `(tactic| walk_at "aug") => `(tactic| first
  | ((with_reducible show WS _ _ _ _ (.AugAssign (.Name (Str.ofString "land") _) _ _ _) _); with_reducible refine ws_ag (by with_unfolding_all exact st_first_unlike_land) (by with_unfolding_all assumption) (by with_unfolding_all exact rfl) (by with_unfolding_all exact rfl) ?_)
  | ((with_reducible show WS _ _ _ _ (.AugAssign (.Name (Str.ofString "moment") _) _ _ _) _); with_reducible refine ws_ag (by with_unfolding_all exact st_first_unlike_moment) (by with_unfolding_all assumption) (by with_unfolding_all exact rfl) (by with_unfolding_all exact rfl) ?_)
  | ((with_reducible show WS _ _ _ _ (.AugAssign (.Name (Str.ofString "pair") _) _ _ _) _); with_reducible refine ws_ag (by with_unfolding_all exact st_first_unlike_pair) (by with_unfolding_all assumption) (by with_unfolding_all exact rfl) (by with_unfolding_all exact rfl) ?_))
local macro_rules | `(tactic| walk_at "for") => `(tactic| first
  | ((with_reducible show WS _ _ _ _ (.For (.Name (Str.ofString "land") _) _ _ _ _) _); with_reducible refine ws_forF (Tgt.nm 2) (by with_unfolding_all exact rfl) (by with_unfolding_all exact (pg_name (by with_unfolding_all assumption) (by with_unfolding_all exact rfl) (by with_unfolding_all first | exact Or.inl rfl | exact Or.inr rfl) (by with_unfolding_all first | exact .inl rfl | exact .inr rfl))) (by with_unfolding_all (intro _; exact rfl)) ?_)
  | ((with_reducible show WS _ _ _ _ (.For (.Tuple [.Name (Str.ofString "moment") _, .Name (Str.ofString "pair") _] _ _) _ _ _ _) _); with_reducible refine ws_forF (Tgt.tp [3, 4]) (by with_unfolding_all exact rfl) (by with_unfolding_all exact (pg_tup (by with_unfolding_all exact rfl) (pgs_cons (pg_name (by with_unfolding_all assumption) (by with_unfolding_all exact rfl) (by with_unfolding_all first | exact Or.inl rfl | exact Or.inr rfl) (by with_unfolding_all first | exact .inl rfl | exact .inr rfl)) (pgs_cons (pg_name (by with_unfolding_all assumption) (by with_unfolding_all exact rfl) (by with_unfolding_all first | exact Or.inl rfl | exact Or.inr rfl) (by with_unfolding_all first | exact .inl rfl | exact .inr rfl)) (pgs_nil) (by with_unfolding_all exact rfl)) (by with_unfolding_all exact rfl)) (by with_unfolding_all exact rfl) (by with_unfolding_all exact rfl))) (by with_unfolding_all (intro _; exact rfl)) ?_))
/-- first_unlike -/
abbrev F_first_unlike (K : PySem.W.Frag) : FSp := fun ws c Q E => ∃ (l m : List Ru), clo c.length c = true ∧ (∀ r ∈ l, r.ok) ∧ (∀ r ∈ m, r.ok) ∧ l.length ≤ 1000 ∧ m.length ≤ 1000 ∧ ws = [.im (rusD l), .im (rusD m)] ∧ Q (.im (unlD (unlL (landsL 10) l m))) c
theorem ok_first_unlike (T : Tx K mg) : HasFn P w K mg base 5 "first_unlike" P_first_unlike (F_first_unlike K) := by
  obtain ⟨f, fd, hm, Fu⟩ := T.f_first_unlike
  refine ⟨f, fd, hm, Fu.kp, fn_w Fu sc_first_unlike (fun ws c Q E => ?_) (fun cdv A outer s H E ws c Q Qx hr hF => ?_), Fu.binds fun _ _ _ _ _ _ us hl => match us, hl with | [_, _], _ => rfl⟩
  · rintro ⟨l, m, hc, hl, hm, hll, hml, rfl, hq⟩; rfl
  obtain ⟨l, m, hc, hl, hm, hll, hml, rfl, hq⟩ := hF
  have hnd : N_first_unlike.Nodup := sc_first_unlike.nd
  change WSs _ _ [_, _, _, _, _] _ _ _
  refine wss_cons ?_
  walk_at "w"
  refine wi_seq ?_
  walk_at "w"
  refine ⟨10, okM_10, by decide, by decide, rfl, ?_⟩
  refine ⟨_, .inl rfl, ?_⟩
  refine forask (fun i ρ' c' => c = c' ∧ (∀ j y, j < i → (landsL 10)[j]? = some y → momL l m y.1 y.2 = none) ∧ ∃ x2 x3 x4, ρ' = [some (.im (rusD l)), some (.im (rusD m)), x2, x3, x4]) ⟨rfl, fun j y h => absurd h (Nat.not_lt_zero _), none, none, none, rfl⟩ (fun i d ρ' c' hd hP => ?_) (fun ρ' c' hP => ?_)
  · obtain ⟨rfl, hno, x2, x3, x4, rfl⟩ := hP
    rw [List.getElem?_map] at hd
    obtain ⟨ab, hab, rfl⟩ := Option.map_eq_some_iff.mp hd
    obtain ⟨a, b⟩ := ab
    obtain ⟨ha, ha2, hb, hb2⟩ := lands_10b _ (List.mem_of_getElem? hab)
    have ha : 2 ≤ a := ha
    have hb : 2 ≤ b := hb
    have ha2 : a ≤ 10 := ha2
    have hb2 : b ≤ 10 := hb2
    have hab2 : a * b ≤ 100 := Int.le_trans (Int.mul_le_mul ha2 hb2 (by omega) (by omega)) (by decide)
    refine ⟨trivial, ?_⟩
    change WSs _ _ [_, _, _, _, _] _ _ _
    walk_at "w"
    refine ⟨l, a, b, hc, ha, by omega, hb, by omega, by omega, hll, rfl, ?_⟩
    walk_at "w"
    refine ⟨m, a, b, hc, ha, by omega, hb, by omega, by omega, hml, rfl, ?_⟩
    refine ⟨_, _, rfl, rfl, by rw [dayL_len, dayL_len], ?_⟩
    refine forask (fun i2 ρ' c' => c = c' ∧ SameTo l m a b i2 ∧ ∃ x3 x4, ρ' = [some (.im (rusD l)), some (.im (rusD m)), some (.im (prD (a, b))), x3, x4]) ⟨rfl, same_zero, _, _, rfl⟩ (fun i2 d ρ' c' hd hP => ?_) (fun ρ' c' hP => ?_)
    · obtain ⟨rfl, hsame, x3, x4, rfl⟩ := hP
      obtain ⟨e, he, rfl⟩ := enumD_get hd
      obtain ⟨e1, e2, he1, he2, rfl⟩ := zipD_get he
      have hi2 : i2 < (a * b).toNat := by
        have := (List.getElem?_eq_some_iff.mp he1).1
        rw [dayL_len] at this; exact this
      rw [dayL_get hi2] at he1 he2
      have he1 := Option.some.inj he1
      have he2 := Option.some.inj he2
      subst he1 he2
      have pl1 := pl_sounds l a b ((i2 : Int) / b) ((i2 : Int) % b)
      have pl2 := pl_sounds m a b ((i2 : Int) / b) ((i2 : Int) % b)
      refine ⟨⟨_, rfl, rfl⟩, ?_⟩
      change WSs _ _ [_, _, _, _, _] _ _ _
      walk_at "w"
      rw [deq_sounds]
      by_cases hE : soundsL l a b ((i2 : Int) / b) ((i2 : Int) % b) = soundsL m a b ((i2 : Int) / b) ((i2 : Int) % b)
      · refine iteNN hE ?_
        walk_at "w"
        exact ⟨rfl, same_succ hsame hE, _, _, rfl⟩
      · refine iteNP hE ?_
        walk_at "w"
        refine q_im hq ?_
        rw [unl_at hno hab (mom_at hsame hi2 hE)]; rfl
    · obtain ⟨rfl, hsame, x3, x4, rfl⟩ := hP
      rw [enumD_len, zipD_len, dayL_len, dayL_len, Nat.min_self] at hsame
      refine ⟨rfl, fun j y hj hy => ?_, _, _, _, rfl⟩
      by_cases q : j = i
      · subst q
        rw [hab] at hy
        have hy := Option.some.inj hy
        subst hy
        exact mom_none hsame
      · exact hno j y (by omega) hy
  · obtain ⟨rfl, hno, x2, x3, x4, rfl⟩ := hP
    walk_at "w"
    refine q_im hq ?_
    rw [unl_no fun j y hj hy => hno j y (by rw [List.length_map]; exact hj) hy]; rfl
local macro_rules | `(tactic| walk_at "call") => `(tactic| ((with_reducible show WE _ _ _ (.Call (.Name (Str.ofString "first_unlike") _) _ _ _) _); with_reducible refine we_callF (ok_first_unlike (by assumption)) (by with_unfolding_all exact ⟨rfl, rfl, rfl, rfl, rfl⟩) (by with_unfolding_all exact L2.Room.mono (by assumption) (by decide)) (by with_unfolding_all exact rfl) (by with_unfolding_all exact rfl) (by with_unfolding_all exact rfl) (by with_unfolding_all exact rfl) ?_))
theorem nm_alike_one : nmB N_alike (defScope s_alike) "one" 0 = true := by decide +kernel
theorem nm_alike_other : nmB N_alike (defScope s_alike) "other" 1 = true := by decide +kernel
local macro_rules | `(tactic| walk_at "n") => `(tactic| first
  | ((with_reducible show WE _ _ _ (.Name (Str.ofString "one") _) _); with_reducible refine we_nm (by with_unfolding_all exact nm_alike_one) (by with_unfolding_all exact rfl) ?_)
  | ((with_reducible show WE _ _ _ (.Name (Str.ofString "other") _) _); with_reducible refine we_nm (by with_unfolding_all exact nm_alike_other) (by with_unfolding_all exact rfl) ?_))
/-- alike -/
abbrev F_alike (K : PySem.W.Frag) : FSp := fun ws c Q E => ∃ (l m : List Ru), clo c.length c = true ∧ (∀ r ∈ l, r.ok) ∧ (∀ r ∈ m, r.ok) ∧ l.length ≤ 1000 ∧ m.length ≤ 1000 ∧ ws = [.im (clockD K l), .im (clockD K m)] ∧ Q (.im (.bl (unlL (landsL 10) l m).isNone)) c
theorem ok_alike (T : Tx K mg) : HasFn P w K mg base 6 "alike" P_alike (F_alike K) := by
  obtain ⟨f, fd, hm, Fu⟩ := T.f_alike
  refine ⟨f, fd, hm, Fu.kp, fn_w Fu sc_alike (fun ws c Q E => ?_) (fun cdv A outer s H E ws c Q Qx hr hF => ?_), Fu.binds fun _ _ _ _ _ _ us hl => match us, hl with | [_, _], _ => rfl⟩
  · rintro ⟨l, m, hc, hl, hm, hll, hml, rfl, hq⟩; rfl
  obtain ⟨l, m, hc, hl, hm, hll, hml, rfl, hq⟩ := hF
  have hnd : N_alike.Nodup := sc_alike.nd
  change WSs _ _ [_, _] _ _ _
  refine wss_one ?_
  unfold clockD
  walk_at "w"
  refine ⟨l, m, hc, hl, hm, hll, hml, rfl, ?_⟩
  walk_at "w"
  exact q_bl hq (unlD_isN _).symm
local macro_rules | `(tactic| walk_at "call") => `(tactic| ((with_reducible show WE _ _ _ (.Call (.Name (Str.ofString "alike") _) _ _ _) _); with_reducible refine we_callF (ok_alike (by assumption)) (by with_unfolding_all exact ⟨rfl, rfl, rfl, rfl, rfl⟩) (by with_unfolding_all exact L2.Room.mono (by assumption) (by decide)) (by with_unfolding_all exact rfl) (by with_unfolding_all exact rfl) (by with_unfolding_all exact rfl) (by with_unfolding_all exact rfl) ?_))
theorem nm_needless_clock : nmB N_needless (defScope s_needless) "clock" 0 = true := by decide +kernel
theorem nm_needless_rows : nmB N_needless (defScope s_needless) "rows" 1 = true := by decide +kernel
theorem st_needless_rows : stB N_needless (defScope s_needless) "rows" 1 = true := by decide +kernel
theorem nm_needless_found : nmB N_needless (defScope s_needless) "found" 2 = true := by decide +kernel
theorem st_needless_found : stB N_needless (defScope s_needless) "found" 2 = true := by decide +kernel
theorem nm_needless_index : nmB N_needless (defScope s_needless) "index" 3 = true := by decide +kernel
theorem st_needless_index : stB N_needless (defScope s_needless) "index" 3 = true := by decide +kernel
local macro_rules | `(tactic| walk_at "n") => `(tactic| first
  | ((with_reducible show WE _ _ _ (.Name (Str.ofString "clock") _) _); with_reducible refine we_nm (by with_unfolding_all exact nm_needless_clock) (by with_unfolding_all exact rfl) ?_)
  | ((with_reducible show WE _ _ _ (.Name (Str.ofString "rows") _) _); with_reducible refine we_nm (by with_unfolding_all exact nm_needless_rows) (by with_unfolding_all exact rfl) ?_)
  | ((with_reducible show WE _ _ _ (.Name (Str.ofString "found") _) _); with_reducible refine we_nm (by with_unfolding_all exact nm_needless_found) (by with_unfolding_all exact rfl) ?_)
  | ((with_reducible show WE _ _ _ (.Name (Str.ofString "index") _) _); with_reducible refine we_nm (by with_unfolding_all exact nm_needless_index) (by with_unfolding_all exact rfl) ?_))
local macro_rules | `(tactic| walk_at "set") => `(tactic| first
  | ((with_reducible show WS _ _ _ _ (.Assign [.Name (Str.ofString "rows") _] _ _) _); with_reducible refine ws_st (by with_unfolding_all exact st_needless_rows) (by with_unfolding_all assumption) (by with_unfolding_all exact rfl) (by with_unfolding_all exact rfl) ?_)
  | ((with_reducible show WS _ _ _ _ (.Assign [.Name (Str.ofString "found") _] _ _) _); with_reducible refine ws_st (by with_unfolding_all exact st_needless_found) (by with_unfolding_all assumption) (by with_unfolding_all exact rfl) (by with_unfolding_all exact rfl) ?_)
  | ((with_reducible show WS _ _ _ _ (.Assign [.Name (Str.ofString "index") _] _ _) _); with_reducible refine ws_st (by with_unfolding_all exact st_needless_index) (by with_unfolding_all assumption) (by with_unfolding_all exact rfl) (by with_unfolding_all exact rfl) ?_))
local macro_rules | `(tactic| walk_at "aug") => `(tactic| first
  | ((with_reducible show WS _ _ _ _ (.AugAssign (.Name (Str.ofString "rows") _) _ _ _) _); with_reducible refine ws_ag (by with_unfolding_all exact st_needless_rows) (by with_unfolding_all assumption) (by with_unfolding_all exact rfl) (by with_unfolding_all exact rfl) ?_)
  | ((with_reducible show WS _ _ _ _ (.AugAssign (.Name (Str.ofString "found") _) _ _ _) _); with_reducible refine ws_ag (by with_unfolding_all exact st_needless_found) (by with_unfolding_all assumption) (by with_unfolding_all exact rfl) (by with_unfolding_all exact rfl) ?_)
  | ((with_reducible show WS _ _ _ _ (.AugAssign (.Name (Str.ofString "index") _) _ _ _) _); with_reducible refine ws_ag (by with_unfolding_all exact st_needless_index) (by with_unfolding_all assumption) (by with_unfolding_all exact rfl) (by with_unfolding_all exact rfl) ?_))
local macro_rules | `(tactic| walk_at "for") => `(tactic| first
  | ((with_reducible show WS _ _ _ _ (.For (.Name (Str.ofString "index") _) _ _ _ _) _); with_reducible refine ws_forF (Tgt.nm 3) (by with_unfolding_all exact rfl) (by with_unfolding_all exact (pg_name (by with_unfolding_all assumption) (by with_unfolding_all exact rfl) (by with_unfolding_all first | exact Or.inl rfl | exact Or.inr rfl) (by with_unfolding_all first | exact .inl rfl | exact .inr rfl))) (by with_unfolding_all (intro _; exact rfl)) ?_))
/-- needless -/
abbrev F_needless (K : PySem.W.Frag) : FSp := fun ws c Q E => ∃ (l : List Ru), clo c.length c = true ∧ (∀ r ∈ l, r.ok) ∧ l.length ≤ 100 ∧ ws = [.im (clockD K l)] ∧ Q (.im (.lst (natsD (needL l)))) c
theorem ok_needless (T : Tx K mg) : HasFn P w K mg base 6 "needless" P_needless (F_needless K) := by
  obtain ⟨f, fd, hm, Fu⟩ := T.f_needless
  refine ⟨f, fd, hm, Fu.kp, fn_w Fu sc_needless (fun ws c Q E => ?_) (fun cdv A outer s H E ws c Q Qx hr hF => ?_), Fu.binds fun _ _ _ _ _ _ us hl => match us, hl with | [_], _ => rfl⟩
  · rintro ⟨l, hc, hl, hll, rfl, hq⟩; rfl
  obtain ⟨l, hc, hl, hll, rfl, hq⟩ := hF
  have hnd : N_needless.Nodup := sc_needless.nd
  change WSs _ _ [_, _, _, _] _ _ _
  have hlen : (l.map Ru.d).length ≤ 1000000 := by rw [List.length_map]; omega
  refine wss_cons ?_
  unfold clockD rusD
  walk_at "w"
  have hn : ((l.map Ru.d).length : Int).toNat = l.length := by rw [List.length_map]; omega
  refine forask (fun i ρ' c' => i ≤ l.length ∧ ∃ x3, c' = c ++ [.lst (natsD ((List.range i).filter fun k => sameB 10 l (dropAt l k)))] ∧ ρ' = [some (.im (.obj (He.ga K "Clock") ["rows"] [.tup (l.map Ru.d)])), some (.im (.tup (l.map Ru.d))), some (.ce c.length), x3]) ⟨Nat.zero_le _, none, rfl, rfl⟩ (fun i d ρ' c' hd hP => ?_) (fun ρ' c' hP => ?_)
  · obtain ⟨hi0, x3, rfl, rfl⟩ := hP
    obtain ⟨hi, rfl⟩ := rangeD_get hd
    rw [hn] at hi
    have hcut := rus_cut (l := l) (k := i)
    have hnl := nats_len (i := i) (p := fun k => sameB 10 l (dropAt l k))
    have hz : (natsD ((List.range i).filter fun k => sameB 10 l (dropAt l k))).length < 1000000 := by omega
    refine ⟨trivial, ?_⟩
    change WSs _ _ [_, _, _, _] _ _ _
    rw [Int.zero_add]
    walk_at "w"
    refine wo_catT (by rw [hcut.1, hcut.2, List.length_map, List.length_map, List.length_take, List.length_drop]; omega) ?_
    rw [hcut.1, hcut.2, ← List.map_append]
    walk_at "w"
    refine ⟨l, dropAt l i, clo_app1 hc, hl, drop_ok hl i, by omega, by have := drop_len l i; omega, rfl, ?_⟩
    walk_at "w"
    rw [unlD_isN]
    have hs := nats_range (i := i) (p := fun k => sameB 10 l (dropAt l k))
    refine L2.ite2 (fun h => ?_) (fun h => ?_)
    · walk_at "w"
      refine ⟨hi, _, ?_, rfl⟩
      rw [hs, if_pos (show sameB 10 l (dropAt l i) = true from h)]
    · walk_at "w"
      refine ⟨hi, _, ?_, rfl⟩
      rw [hs, if_neg (show ¬ sameB 10 l (dropAt l i) = true from h), List.append_nil]
  · obtain ⟨hi0, x3, rfl, rfl⟩ := hP
    rw [rangeD_len, hn]
    walk_at "w"
    refine RtOk.lst cel_0 ?_ (Nat.le_refl _) (clo_app hc)
    rw [take_app]
    exact hq
local macro_rules | `(tactic| walk_at "call") => `(tactic| ((with_reducible show WE _ _ _ (.Call (.Name (Str.ofString "needless") _) _ _ _) _); with_reducible refine we_callF (ok_needless (by assumption)) (by with_unfolding_all exact ⟨rfl, rfl, rfl, rfl, rfl⟩) (by with_unfolding_all exact L2.Room.mono (by assumption) (by decide)) (by with_unfolding_all exact rfl) (by with_unfolding_all exact rfl) (by with_unfolding_all exact rfl) (by with_unfolding_all exact rfl) ?_))
theorem nm_swaps_clock : nmB N_swaps (defScope s_swaps) "clock" 0 = true := by decide +kernel
theorem nm_swaps_rows : nmB N_swaps (defScope s_swaps) "rows" 1 = true := by decide +kernel
theorem st_swaps_rows : stB N_swaps (defScope s_swaps) "rows" 1 = true := by decide +kernel
theorem nm_swaps_found : nmB N_swaps (defScope s_swaps) "found" 2 = true := by decide +kernel
theorem st_swaps_found : stB N_swaps (defScope s_swaps) "found" 2 = true := by decide +kernel
theorem nm_swaps_index : nmB N_swaps (defScope s_swaps) "index" 3 = true := by decide +kernel
theorem st_swaps_index : stB N_swaps (defScope s_swaps) "index" 3 = true := by decide +kernel
local macro_rules | `(tactic| walk_at "n") => `(tactic| first
  | ((with_reducible show WE _ _ _ (.Name (Str.ofString "clock") _) _); with_reducible refine we_nm (by with_unfolding_all exact nm_swaps_clock) (by with_unfolding_all exact rfl) ?_)
  | ((with_reducible show WE _ _ _ (.Name (Str.ofString "rows") _) _); with_reducible refine we_nm (by with_unfolding_all exact nm_swaps_rows) (by with_unfolding_all exact rfl) ?_)
  | ((with_reducible show WE _ _ _ (.Name (Str.ofString "found") _) _); with_reducible refine we_nm (by with_unfolding_all exact nm_swaps_found) (by with_unfolding_all exact rfl) ?_)
  | ((with_reducible show WE _ _ _ (.Name (Str.ofString "index") _) _); with_reducible refine we_nm (by with_unfolding_all exact nm_swaps_index) (by with_unfolding_all exact rfl) ?_))
local macro_rules | `(tactic| walk_at "set") => `(tactic| first
  | ((with_reducible show WS _ _ _ _ (.Assign [.Name (Str.ofString "rows") _] _ _) _); with_reducible refine ws_st (by with_unfolding_all exact st_swaps_rows) (by with_unfolding_all assumption) (by with_unfolding_all exact rfl) (by with_unfolding_all exact rfl) ?_)
  | ((with_reducible show WS _ _ _ _ (.Assign [.Name (Str.ofString "found") _] _ _) _); with_reducible refine ws_st (by with_unfolding_all exact st_swaps_found) (by with_unfolding_all assumption) (by with_unfolding_all exact rfl) (by with_unfolding_all exact rfl) ?_)
  | ((with_reducible show WS _ _ _ _ (.Assign [.Name (Str.ofString "index") _] _ _) _); with_reducible refine ws_st (by with_unfolding_all exact st_swaps_index) (by with_unfolding_all assumption) (by with_unfolding_all exact rfl) (by with_unfolding_all exact rfl) ?_))
local macro_rules | `(tactic| walk_at "aug") => `(tactic| first
  | ((with_reducible show WS _ _ _ _ (.AugAssign (.Name (Str.ofString "rows") _) _ _ _) _); with_reducible refine ws_ag (by with_unfolding_all exact st_swaps_rows) (by with_unfolding_all assumption) (by with_unfolding_all exact rfl) (by with_unfolding_all exact rfl) ?_)
  | ((with_reducible show WS _ _ _ _ (.AugAssign (.Name (Str.ofString "found") _) _ _ _) _); with_reducible refine ws_ag (by with_unfolding_all exact st_swaps_found) (by with_unfolding_all assumption) (by with_unfolding_all exact rfl) (by with_unfolding_all exact rfl) ?_)
  | ((with_reducible show WS _ _ _ _ (.AugAssign (.Name (Str.ofString "index") _) _ _ _) _); with_reducible refine ws_ag (by with_unfolding_all exact st_swaps_index) (by with_unfolding_all assumption) (by with_unfolding_all exact rfl) (by with_unfolding_all exact rfl) ?_))
local macro_rules | `(tactic| walk_at "for") => `(tactic| first
  | ((with_reducible show WS _ _ _ _ (.For (.Name (Str.ofString "index") _) _ _ _ _) _); with_reducible refine ws_forF (Tgt.nm 3) (by with_unfolding_all exact rfl) (by with_unfolding_all exact (pg_name (by with_unfolding_all assumption) (by with_unfolding_all exact rfl) (by with_unfolding_all first | exact Or.inl rfl | exact Or.inr rfl) (by with_unfolding_all first | exact .inl rfl | exact .inr rfl))) (by with_unfolding_all (intro _; exact rfl)) ?_))
/-- swaps -/
abbrev F_swaps (K : PySem.W.Frag) : FSp := fun ws c Q E => ∃ (l : List Ru), clo c.length c = true ∧ (∀ r ∈ l, r.ok) ∧ l.length ≤ 100 ∧ ws = [.im (clockD K l)] ∧ Q (.im (.lst (natsD (swapsL l)))) c
theorem ok_swaps (T : Tx K mg) : HasFn P w K mg base 6 "swaps" P_swaps (F_swaps K) := by
  obtain ⟨f, fd, hm, Fu⟩ := T.f_swaps
  refine ⟨f, fd, hm, Fu.kp, fn_w Fu sc_swaps (fun ws c Q E => ?_) (fun cdv A outer s H E ws c Q Qx hr hF => ?_), Fu.binds fun _ _ _ _ _ _ us hl => match us, hl with | [_], _ => rfl⟩
  · rintro ⟨l, hc, hl, hll, rfl, hq⟩; rfl
  obtain ⟨l, hc, hl, hll, rfl, hq⟩ := hF
  have hnd : N_swaps.Nodup := sc_swaps.nd
  change WSs _ _ [_, _, _, _] _ _ _
  have hlen : (l.map Ru.d).length ≤ 1000000 := by rw [List.length_map]; omega
  refine wss_cons ?_
  unfold clockD rusD
  walk_at "w"
  have hn : (((l.map Ru.d).length : Int) - 1).toNat = l.length - 1 := by rw [List.length_map]; omega
  refine forask (fun i ρ' c' => i ≤ l.length - 1 ∧ ∃ x3, c' = c ++ [.lst (natsD ((List.range i).filter fun k => sameB 10 l (swapAt l k)))] ∧ ρ' = [some (.im (.obj (He.ga K "Clock") ["rows"] [.tup (l.map Ru.d)])), some (.im (.tup (l.map Ru.d))), some (.ce c.length), x3]) ⟨Nat.zero_le _, none, rfl, rfl⟩ (fun i d ρ' c' hd hP => ?_) (fun ρ' c' hP => ?_)
  · obtain ⟨hi0, x3, rfl, rfl⟩ := hP
    obtain ⟨hi, rfl⟩ := rangeD_get hd
    rw [hn] at hi
    have hi2 : i + 1 < l.length := by omega
    have hcut := rus_cut (l := l) (k := i)
    have hcut2 := rus_cut2 (l := l) (k := i)
    have hnl := nats_len (i := i) (p := fun k => sameB 10 l (swapAt l k))
    have hz : (natsD ((List.range i).filter fun k => sameB 10 l (swapAt l k))).length < 1000000 := by omega
    have hat0 : L2.atI (l.map Ru.d) (i : Int) = some (l[i]).d := by
      rw [atI_nat (by rw [List.length_map]; omega), List.getElem_map]
    have hat1 : L2.atI (l.map Ru.d) ((i : Int) + 1) = some (l[i + 1]).d := by
      rw [show ((i : Int) + 1) = ((i + 1 : Nat) : Int) by omega, atI_nat (by rw [List.length_map]; omega), List.getElem_map]
    refine ⟨trivial, ?_⟩
    change WSs _ _ [_, _, _, _] _ _ _
    rw [Int.zero_add]
    walk_at "w"
    rw [hcut.1]
    refine ⟨_, .inl rfl, ?_⟩
    walk_at "w"
    rw [hcut2]
    refine ⟨_, .inl rfl, ?_⟩
    walk_at "w"
    refine ⟨(swapAt l i).map Ru.d, ?_, by rw [List.length_map]; have := swap_len l i; omega, ?_⟩
    · rw [swap_eq hi2, List.map_append, List.map_cons, List.map_cons]
      refine ims_app ?_
      show (ims (W.im (l[i].d) :: _)).map _ = _
      show ((ims _).map _).map _ = _
      rw [ims_app (ds := []) rfl, List.append_nil]; rfl
    walk_at "w"
    refine ⟨l, swapAt l i, clo_app1 hc, hl, swap_ok hl i, by omega, by have := swap_len l i; omega, rfl, ?_⟩
    walk_at "w"
    rw [unlD_isN]
    have hs := nats_range (i := i) (p := fun k => sameB 10 l (swapAt l k))
    refine L2.ite2 (fun h => ?_) (fun h => ?_)
    · walk_at "w"
      refine ⟨hi, _, ?_, rfl⟩
      rw [hs, if_pos (show sameB 10 l (swapAt l i) = true from h)]
    · walk_at "w"
      refine ⟨hi, _, ?_, rfl⟩
      rw [hs, if_neg (show ¬ sameB 10 l (swapAt l i) = true from h), List.append_nil]
  · obtain ⟨hi0, x3, rfl, rfl⟩ := hP
    rw [rangeD_len, hn]
    walk_at "w"
    refine RtOk.lst cel_0 ?_ (Nat.le_refl _) (clo_app hc)
    rw [take_app]
    exact hq
local macro_rules | `(tactic| walk_at "call") => `(tactic| ((with_reducible show WE _ _ _ (.Call (.Name (Str.ofString "swaps") _) _ _ _) _); with_reducible refine we_callF (ok_swaps (by assumption)) (by with_unfolding_all exact ⟨rfl, rfl, rfl, rfl, rfl⟩) (by with_unfolding_all exact L2.Room.mono (by assumption) (by decide)) (by with_unfolding_all exact rfl) (by with_unfolding_all exact rfl) (by with_unfolding_all exact rfl) (by with_unfolding_all exact rfl) ?_))
theorem nm_is_same_value : nmB N_is_same (defScope s_is_same) "value" 0 = true := by decide +kernel
theorem nm_is_same_told : nmB N_is_same (defScope s_is_same) "told" 1 = true := by decide +kernel
local macro_rules | `(tactic| walk_at "n") => `(tactic| first
  | ((with_reducible show WE _ _ _ (.Name (Str.ofString "value") _) _); with_reducible refine we_nm (by with_unfolding_all exact nm_is_same_value) (by with_unfolding_all exact rfl) ?_)
  | ((with_reducible show WE _ _ _ (.Name (Str.ofString "told") _) _); with_reducible refine we_nm (by with_unfolding_all exact nm_is_same_told) (by with_unfolding_all exact rfl) ?_))
local macro_rules | `(tactic| walk_at "lc") => `(tactic| first
  | ((with_reducible show WE _ _ _ (.ListComp _ [⟨.Tuple [.Name (Str.ofString "bell") _, .Name (Str.ofString "many") _] _ _, _, _, _⟩] _ _) _); with_reducible refine we_lc (own := [(("bell" : Str), 2), (("many" : Str), 3)]) (Tgt.tp [2, 3]) (by with_unfolding_all exact rfl) (by with_unfolding_all assumption) (by with_unfolding_all exact blkOk_by rfl) (by with_unfolding_all decide) (fun b => (by with_unfolding_all exact (pg_tup (by with_unfolding_all exact rfl) (pgs_cons (pg_name (by with_unfolding_all assumption) (by with_unfolding_all exact rfl) (by with_unfolding_all first | exact Or.inl rfl | exact Or.inr rfl) (by with_unfolding_all first | exact .inl rfl | exact .inr rfl)) (pgs_cons (pg_name (by with_unfolding_all assumption) (by with_unfolding_all exact rfl) (by with_unfolding_all first | exact Or.inl rfl | exact Or.inr rfl) (by with_unfolding_all first | exact .inl rfl | exact .inr rfl)) (pgs_nil) (by with_unfolding_all exact rfl)) (by with_unfolding_all exact rfl)) (by with_unfolding_all exact rfl) (by with_unfolding_all exact rfl)))) ?_ (by with_unfolding_all (intro _; exact rfl))))
/-- is_same -/
abbrev F_is_same (K : PySem.W.Frag) : FSp := fun ws c Q E => ∃ (v : HV) (b : Snd), v.ok ∧ b.length ≤ 100 ∧ ws = [.im v.d, .im (sndD b)] ∧ Q (.im (.bl (v.same b))) c
theorem ok_is_same (T : Tx K mg) : HasFn P w K mg base 2 "is_same" P_is_same (F_is_same K) := by
  obtain ⟨f, fd, hm, Fu⟩ := T.f_is_same
  refine ⟨f, fd, hm, Fu.kp, fn_w Fu sc_is_same (fun ws c Q E => ?_) (fun cdv A outer s H E ws c Q Qx hr hF => ?_), Fu.binds fun _ _ _ _ _ _ us hl => match us, hl with | [_, _], _ => rfl⟩
  · rintro ⟨v, b, ha, hb, rfl, hq⟩; rfl
  obtain ⟨v, b, ha, hb, rfl, hq⟩ := hF
  have hnd : N_is_same.Nodup := sc_is_same.nd
  change WSs _ _ [_, _, _, _] _ _ _
  refine wss_cons ?_
  have pb := pl_snd (s := b) (by omega)
  cases v with
  | non => dsimp only [HV.d]; walk_at "w"
  | nil => dsimp only [HV.d]; walk_at "w"
  | low => dsimp only [HV.d]; walk_at "w"
  | lowT =>
    have pa : Pl 8 (.tup [.tup [.str "low", .bl true]]) := ⟨by simp, fun z hz => by
      simp only [List.mem_cons, List.not_mem_nil, or_false] at hz
      subst hz
      refine ⟨by simp, fun z hz => ?_⟩
      simp only [List.mem_cons, List.not_mem_nil, or_false] at hz
      rcases hz with rfl | rfl
      · show PyData.strOk _ = true; decide +kernel
      · trivial⟩
    dsimp only [HV.d]
    walk_at "w"
    by_cases hab : deq (.tup [.tup [.str "low", .bl true]]) (sndD b) = true
    · rw [hab]
      walk_at "w"
      refine wi_tup ?_
      walk_at "w"
      refine lc_map (fun _ => .bl false) (Nat.le_of_ble_eq_true rfl) (fun i d hd => ?_) ?_
      · obtain rfl : d = .tup [.str "low", .bl true] := by simpa using List.mem_of_getElem? hd
        refine ⟨⟨_, rfl, rfl⟩, fun b => ?_⟩
        walk_at "w"
        exact ⟨rfl, rfl⟩
      · walk_at "w"
        refine wc_all (bs := [false]) rfl .im ?_
        walk_at "w"
    · rw [Bool.eq_false_iff.mpr hab]
      walk_at "w"
  | snd a =>
    have ha : a.length ≤ 100 := ha
    have pa := pl_snd (s := a) (by omega)
    dsimp only [HV.d]
    walk_at "w"
    have e : deq (sndD a) (sndD b) = decide (a = b) := by unfold sndD; rw [deq, deqs_snd]
    rw [e]
    dsimp only [HV.same] at hq
    by_cases hab : a = b
    · rw [decide_eq_true hab] at hq ⊢
      walk_at "w"
      unfold sndD
      refine wi_tup ?_
      walk_at "w"
      refine lc_map (fun _ => .bl true) (by rw [List.length_map]; omega) (fun i d hd => ?_) ?_
      · obtain ⟨lo, k, rfl⟩ := snd_pair a i d hd
        refine ⟨⟨_, rfl, rfl⟩, fun b => ?_⟩
        walk_at "w"
        exact ⟨rfl, rfl⟩
      · have ea : (List.map (fun x : Bool × Int => pairD x.1 x.2) a).map (fun _ => D.bl true) = (a.map fun _ => true).map D.bl := by
          rw [List.map_map, List.map_map]; rfl
        have eb : ((a.map fun _ => true).all id) = true := by rw [List.all_map]; exact List.all_eq_true.mpr fun _ _ => rfl
        rw [ea]
        walk_at "w"
        rw [eb]
        walk_at "w"
    · rw [decide_eq_false hab] at hq ⊢
      walk_at "w"
local macro_rules | `(tactic| walk_at "call") => `(tactic| ((with_reducible show WE _ _ _ (.Call (.Name (Str.ofString "is_same") _) _ _ _) _); with_reducible refine we_callF (ok_is_same (by assumption)) (by with_unfolding_all exact ⟨rfl, rfl, rfl, rfl, rfl⟩) (by with_unfolding_all exact L2.Room.mono (by assumption) (by decide)) (by with_unfolding_all exact rfl) (by with_unfolding_all exact rfl) (by with_unfolding_all exact rfl) (by with_unfolding_all exact rfl) ?_))
theorem nm_begun_in_sounds : nmB N_begun_in (defScope s_begun_in) "sounds" 0 = true := by decide +kernel
theorem nm_begun_in_heard : nmB N_begun_in (defScope s_begun_in) "heard" 1 = true := by decide +kernel
theorem nm_begun_in_found : nmB N_begun_in (defScope s_begun_in) "found" 2 = true := by decide +kernel
theorem st_begun_in_found : stB N_begun_in (defScope s_begun_in) "found" 2 = true := by decide +kernel
theorem nm_begun_in_at : nmB N_begun_in (defScope s_begun_in) "at" 3 = true := by decide +kernel
theorem st_begun_in_at : stB N_begun_in (defScope s_begun_in) "at" 3 = true := by decide +kernel
theorem nm_begun_in_value : nmB N_begun_in (defScope s_begun_in) "value" 4 = true := by decide +kernel
theorem st_begun_in_value : stB N_begun_in (defScope s_begun_in) "value" 4 = true := by decide +kernel
local macro_rules | `(tactic| walk_at "n") => `(tactic| first
  | ((with_reducible show WE _ _ _ (.Name (Str.ofString "sounds") _) _); with_reducible refine we_nm (by with_unfolding_all exact nm_begun_in_sounds) (by with_unfolding_all exact rfl) ?_)
  | ((with_reducible show WE _ _ _ (.Name (Str.ofString "heard") _) _); with_reducible refine we_nm (by with_unfolding_all exact nm_begun_in_heard) (by with_unfolding_all exact rfl) ?_)
  | ((with_reducible show WE _ _ _ (.Name (Str.ofString "found") _) _); with_reducible refine we_nm (by with_unfolding_all exact nm_begun_in_found) (by with_unfolding_all exact rfl) ?_)
  | ((with_reducible show WE _ _ _ (.Name (Str.ofString "at") _) _); with_reducible refine we_nm (by with_unfolding_all exact nm_begun_in_at) (by with_unfolding_all exact rfl) ?_)
  | ((with_reducible show WE _ _ _ (.Name (Str.ofString "value") _) _); with_reducible refine we_nm (by with_unfolding_all exact nm_begun_in_value) (by with_unfolding_all exact rfl) ?_))
local macro_rules | `(tactic| walk_at "set") => `(tactic| first
  | ((with_reducible show WS _ _ _ _ (.Assign [.Name (Str.ofString "found") _] _ _) _); with_reducible refine ws_st (by with_unfolding_all exact st_begun_in_found) (by with_unfolding_all assumption) (by with_unfolding_all exact rfl) (by with_unfolding_all exact rfl) ?_)
  | ((with_reducible show WS _ _ _ _ (.Assign [.Name (Str.ofString "at") _] _ _) _); with_reducible refine ws_st (by with_unfolding_all exact st_begun_in_at) (by with_unfolding_all assumption) (by with_unfolding_all exact rfl) (by with_unfolding_all exact rfl) ?_)
  | ((with_reducible show WS _ _ _ _ (.Assign [.Name (Str.ofString "value") _] _ _) _); with_reducible refine ws_st (by with_unfolding_all exact st_begun_in_value) (by with_unfolding_all assumption) (by with_unfolding_all exact rfl) (by with_unfolding_all exact rfl) ?_))
local macro_rules | `(tactic| walk_at "aug") => `(tactic| first
  | ((with_reducible show WS _ _ _ _ (.AugAssign (.Name (Str.ofString "found") _) _ _ _) _); with_reducible refine ws_ag (by with_unfolding_all exact st_begun_in_found) (by with_unfolding_all assumption) (by with_unfolding_all exact rfl) (by with_unfolding_all exact rfl) ?_)
  | ((with_reducible show WS _ _ _ _ (.AugAssign (.Name (Str.ofString "at") _) _ _ _) _); with_reducible refine ws_ag (by with_unfolding_all exact st_begun_in_at) (by with_unfolding_all assumption) (by with_unfolding_all exact rfl) (by with_unfolding_all exact rfl) ?_)
  | ((with_reducible show WS _ _ _ _ (.AugAssign (.Name (Str.ofString "value") _) _ _ _) _); with_reducible refine ws_ag (by with_unfolding_all exact st_begun_in_value) (by with_unfolding_all assumption) (by with_unfolding_all exact rfl) (by with_unfolding_all exact rfl) ?_))
local macro_rules | `(tactic| walk_at "forC") => `(tactic| first
  | ((with_reducible show WS _ _ _ _ (.For (.Tuple [.Name (Str.ofString "at") _, .Name (Str.ofString "value") _] _ _) _ _ _ _) _); with_reducible refine ws_forCE (Tgt.tp [3, 4]) (by with_unfolding_all exact rfl) (by with_unfolding_all exact (pg_tup (by with_unfolding_all exact rfl) (pgs_cons (pg_name (by with_unfolding_all assumption) (by with_unfolding_all exact rfl) (by with_unfolding_all first | exact Or.inl rfl | exact Or.inr rfl) (by with_unfolding_all first | exact .inl rfl | exact .inr rfl)) (pgs_cons (pg_name (by with_unfolding_all assumption) (by with_unfolding_all exact rfl) (by with_unfolding_all first | exact Or.inl rfl | exact Or.inr rfl) (by with_unfolding_all first | exact .inl rfl | exact .inr rfl)) (pgs_nil) (by with_unfolding_all exact rfl)) (by with_unfolding_all exact rfl)) (by with_unfolding_all exact rfl) (by with_unfolding_all exact rfl))) (by with_unfolding_all (intro _; exact rfl)) ?_))
local macro_rules | `(tactic| walk_at "forD") => `(tactic| first
  | ((with_reducible show WS _ _ _ _ (.For (.Tuple [.Name (Str.ofString "at") _, .Name (Str.ofString "value") _] _ _) _ _ _ _) _); with_reducible refine ws_forF (Tgt.tp [3, 4]) (by with_unfolding_all exact rfl) (by with_unfolding_all exact (pg_tup (by with_unfolding_all exact rfl) (pgs_cons (pg_name (by with_unfolding_all assumption) (by with_unfolding_all exact rfl) (by with_unfolding_all first | exact Or.inl rfl | exact Or.inr rfl) (by with_unfolding_all first | exact .inl rfl | exact .inr rfl)) (pgs_cons (pg_name (by with_unfolding_all assumption) (by with_unfolding_all exact rfl) (by with_unfolding_all first | exact Or.inl rfl | exact Or.inr rfl) (by with_unfolding_all first | exact .inl rfl | exact .inr rfl)) (pgs_nil) (by with_unfolding_all exact rfl)) (by with_unfolding_all exact rfl)) (by with_unfolding_all exact rfl) (by with_unfolding_all exact rfl))) (by with_unfolding_all (intro _; exact rfl)) ?_))
local macro_rules | `(tactic| walk_at "lc") => `(tactic| first
  | ((with_reducible show WE _ _ _ (.ListComp _ [⟨.Name (Str.ofString "moment") _, _, _, _⟩] _ _) _); with_reducible refine we_lc (own := [(("moment" : Str), 5)]) (Tgt.nm 5) (by with_unfolding_all exact rfl) (by with_unfolding_all assumption) (by with_unfolding_all exact blkOk_by rfl) (by with_unfolding_all decide) (fun b => (by with_unfolding_all exact (pg_name (by with_unfolding_all assumption) (by with_unfolding_all exact rfl) (by with_unfolding_all first | exact Or.inl rfl | exact Or.inr rfl) (by with_unfolding_all first | exact .inl rfl | exact .inr rfl)))) ?_ (by with_unfolding_all (intro _; exact rfl))))
local macro_rules | `(tactic| walk_at "lset") => `(tactic| first
  | ((with_reducible show WS _ _ _ _ (.Assign [.Name (Str.ofString "found") _] (.ListComp _ [⟨.Name (Str.ofString "moment") _, _, _, _⟩] _ _) _) _); with_reducible refine ws_setLc (own := [(("moment" : Str), 5)]) (Tgt.nm 5) (by with_unfolding_all exact rfl) (by with_unfolding_all assumption) (by with_unfolding_all exact rfl) (by with_unfolding_all exact blkOk_by rfl) (by with_unfolding_all decide) (fun b => (by with_unfolding_all exact (pg_name (by with_unfolding_all assumption) (by with_unfolding_all exact rfl) (by with_unfolding_all first | exact Or.inl rfl | exact Or.inr rfl) (by with_unfolding_all first | exact .inl rfl | exact .inr rfl)))) ?_ (by with_unfolding_all exact rfl) (by with_unfolding_all exact rfl) (by with_unfolding_all (intro _; exact rfl))))
/-- begun_in -/
abbrev F_begun_in (K : PySem.W.Frag) : FSp := fun ws c Q E => ∃ (k : Bool) (s : List Snd) (h : List HV), s.length ≤ 1000 ∧ h.length ≤ 1000 ∧ 0 < s.length ∧ (∀ x ∈ s, x.length ≤ 2) ∧ (∀ x ∈ h, x.ok) ∧ ws = [.im (.lst (s.map sndD)), .im (lotD k (h.map HV.d))] ∧ Q (.im (.lst (natsD (begH s h)))) c
theorem ok_begun_in (T : Tx K mg) : HasFn P w K mg base 3 "begun_in" P_begun_in (F_begun_in K) := by
  obtain ⟨f, fd, hm, Fu⟩ := T.f_begun_in
  refine ⟨f, fd, hm, Fu.kp, fn_w Fu sc_begun_in (fun ws c Q E => ?_) (fun cdv A outer s H E ws c Q Qx hr hF => ?_), Fu.binds fun _ _ _ _ _ _ us hl => match us, hl with | [_, _], _ => rfl⟩
  · rintro ⟨k, s, h, hs, hh, hp, hs2, hh2, rfl, hq⟩; rfl
  obtain ⟨k, s, h, hs, hh, hp, hs2, hh2, rfl, hq⟩ := hF
  have hnd : N_begun_in.Nodup := sc_begun_in.nd
  change WSs _ _ [_, _, _, _, _, _] _ _ _
  refine wss_cons ?_
  have hz : (s.map sndD).length ≤ 1000000 := by rw [List.length_map]; omega
  walk_at "w"
  walk_at "forD"
  have e0 : rangeD 0 ((((s.map sndD).length : Nat) : Int)).toNat = natsD (begHU s h 0) := by
    rw [begH_0, ← nats_rng, Int.toNat_natCast, List.length_map]
  rw [e0]
  have step : ∀ (i : Nat) (d : D) (v : HV) (x3 x4 x5 : Option W), h[i]? = some v → d = .tup [.int (i : Nat), v.d] → True := fun _ _ _ _ _ _ _ _ => trivial
  cases k with
  | true =>
    dsimp only [lotD, if_true]
    refine wi_enumL (by with_unfolding_all exact (Tx.n_enumerate (by assumption))) (by with_unfolding_all exact rfl) (by with_unfolding_all exact rfl) ?_
    walk_at "w"
    refine forask (fun i ρ' c' => c = c' ∧ ∃ x3 x4 x5, ρ' = [some (.im (.lst (s.map sndD))), some (.im (.lst (h.map HV.d))), some (.im (.lst (natsD (begHU s h i)))), x3, x4, x5]) ⟨rfl, none, none, none, rfl⟩ (fun i d ρ' c' hd hP => ?_) (fun ρ' c' hP => ?_)
    · obtain ⟨rfl, x3, x4, x5, rfl⟩ := hP
      obtain ⟨e, he, rfl⟩ := enumD_get hd
      rw [List.getElem?_map] at he
      obtain ⟨v, hv, rfl⟩ := Option.map_eq_some_iff.mp he
      refine ⟨⟨_, rfl, rfl⟩, ?_⟩
      change WSs _ _ [_, _, _, _, _, _] _ _ _
      have hbl := begH_len s h i
      have hsp : (0 : Int) < (((s.map sndD).length : Nat) : Int) := by rw [List.length_map]; omega
      walk_at "w"
      refine wi_seq ?_
      walk_at "w"
      refine ⟨_, .inl rfl, ?_⟩
      refine lc_filter (fun d => idxP (fun m => (h.getD i .non).same (s.getD ((m + i) % s.length) [])) d) id (by unfold natsD; rw [List.length_map]; omega) (fun j d hd => ?_) (fun j d hd hp b => ?_) ?_
      · unfold natsD at hd
        rw [List.getElem?_map] at hd
        obtain ⟨m, hm, rfl⟩ := Option.map_eq_some_iff.mp hd
        have hk : (m + i) % s.length < s.length := Nat.mod_lt _ hp
        have hat : L2.atI (s.map sndD) (((m : Int) + (i : Int)) % (((s.map sndD).length : Nat) : Int)) = some (sndD (s.getD ((m + i) % s.length) [])) := by
          rw [List.length_map, show ((m : Int) + (i : Int)) % ((s.length : Nat) : Int) = (((m + i) % s.length : Nat) : Int) by rw [Int.natCast_emod, Int.natCast_add]]
          exact L2.atI_nat (by rw [List.getElem?_map, List.getD_eq_getElem?_getD, List.getElem?_eq_getElem hk]; rfl)
        have hvi : h.getD i .non = v := by rw [List.getD_eq_getElem?_getD, hv]; rfl
        refine ⟨trivial, fun b => ?_⟩
        walk_at "w"
        refine ⟨v, s.getD ((m + i) % s.length) [], hh2 _ (List.mem_of_getElem? hv), ?_, rfl, ?_⟩
        · rw [List.getD_eq_getElem?_getD, List.getElem?_eq_getElem hk]
          exact Nat.le_trans (hs2 _ (List.getElem_mem hk)) (by decide)
        refine ⟨_, rfl, ?_, rfl⟩
        show v.same _ = (h.getD i .non).same (s.getD ((((m : Nat) : Int).toNat + i) % s.length) [])
        rw [hvi, Int.toNat_natCast]
      · walk_at "w"
        exact ⟨rfl, rfl⟩
      · walk_at "w"
        rw [filter_nats2, ← begH_s]
        exact ⟨rfl, _, _, _, rfl⟩
    · obtain ⟨rfl, x3, x4, x5, rfl⟩ := hP
      rw [enumD_len, List.length_map]
      walk_at "w"
  | false =>
    dsimp only [lotD]
    walk_at "w"
    refine forask (fun i ρ' c' => c = c' ∧ ∃ x3 x4 x5, ρ' = [some (.im (.lst (s.map sndD))), some (.im (.tup (h.map HV.d))), some (.im (.lst (natsD (begHU s h i)))), x3, x4, x5]) ⟨rfl, none, none, none, rfl⟩ (fun i d ρ' c' hd hP => ?_) (fun ρ' c' hP => ?_)
    · obtain ⟨rfl, x3, x4, x5, rfl⟩ := hP
      obtain ⟨e, he, rfl⟩ := enumD_get hd
      rw [List.getElem?_map] at he
      obtain ⟨v, hv, rfl⟩ := Option.map_eq_some_iff.mp he
      refine ⟨⟨_, rfl, rfl⟩, ?_⟩
      change WSs _ _ [_, _, _, _, _, _] _ _ _
      have hbl := begH_len s h i
      have hsp : (0 : Int) < (((s.map sndD).length : Nat) : Int) := by rw [List.length_map]; omega
      walk_at "w"
      refine wi_seq ?_
      walk_at "w"
      refine ⟨_, .inl rfl, ?_⟩
      refine lc_filter (fun d => idxP (fun m => (h.getD i .non).same (s.getD ((m + i) % s.length) [])) d) id (by unfold natsD; rw [List.length_map]; omega) (fun j d hd => ?_) (fun j d hd hp b => ?_) ?_
      · unfold natsD at hd
        rw [List.getElem?_map] at hd
        obtain ⟨m, hm, rfl⟩ := Option.map_eq_some_iff.mp hd
        have hk : (m + i) % s.length < s.length := Nat.mod_lt _ hp
        have hat : L2.atI (s.map sndD) (((m : Int) + (i : Int)) % (((s.map sndD).length : Nat) : Int)) = some (sndD (s.getD ((m + i) % s.length) [])) := by
          rw [List.length_map, show ((m : Int) + (i : Int)) % ((s.length : Nat) : Int) = (((m + i) % s.length : Nat) : Int) by rw [Int.natCast_emod, Int.natCast_add]]
          exact L2.atI_nat (by rw [List.getElem?_map, List.getD_eq_getElem?_getD, List.getElem?_eq_getElem hk]; rfl)
        have hvi : h.getD i .non = v := by rw [List.getD_eq_getElem?_getD, hv]; rfl
        refine ⟨trivial, fun b => ?_⟩
        walk_at "w"
        refine ⟨v, s.getD ((m + i) % s.length) [], hh2 _ (List.mem_of_getElem? hv), ?_, rfl, ?_⟩
        · rw [List.getD_eq_getElem?_getD, List.getElem?_eq_getElem hk]
          exact Nat.le_trans (hs2 _ (List.getElem_mem hk)) (by decide)
        refine ⟨_, rfl, ?_, rfl⟩
        show v.same _ = (h.getD i .non).same (s.getD ((((m : Nat) : Int).toNat + i) % s.length) [])
        rw [hvi, Int.toNat_natCast]
      · walk_at "w"
        exact ⟨rfl, rfl⟩
      · walk_at "w"
        rw [filter_nats2, ← begH_s]
        exact ⟨rfl, _, _, _, rfl⟩
    · obtain ⟨rfl, x3, x4, x5, rfl⟩ := hP
      rw [enumD_len, List.length_map]
      walk_at "w"
local macro_rules | `(tactic| walk_at "call") => `(tactic| ((with_reducible show WE _ _ _ (.Call (.Name (Str.ofString "begun_in") _) _ _ _) _); with_reducible refine we_callF (ok_begun_in (by assumption)) (by with_unfolding_all exact ⟨rfl, rfl, rfl, rfl, rfl⟩) (by with_unfolding_all exact L2.Room.mono (by assumption) (by decide)) (by with_unfolding_all exact rfl) (by with_unfolding_all exact rfl) (by with_unfolding_all exact rfl) (by with_unfolding_all exact rfl) ?_))
theorem nm_begun_clock : nmB N_begun (defScope s_begun) "clock" 0 = true := by decide +kernel
theorem nm_begun_land : nmB N_begun (defScope s_begun) "land" 1 = true := by decide +kernel
theorem nm_begun_heard : nmB N_begun (defScope s_begun) "heard" 2 = true := by decide +kernel
local macro_rules | `(tactic| walk_at "n") => `(tactic| first
  | ((with_reducible show WE _ _ _ (.Name (Str.ofString "clock") _) _); with_reducible refine we_nm (by with_unfolding_all exact nm_begun_clock) (by with_unfolding_all exact rfl) ?_)
  | ((with_reducible show WE _ _ _ (.Name (Str.ofString "land") _) _); with_reducible refine we_nm (by with_unfolding_all exact nm_begun_land) (by with_unfolding_all exact rfl) ?_)
  | ((with_reducible show WE _ _ _ (.Name (Str.ofString "heard") _) _); with_reducible refine we_nm (by with_unfolding_all exact nm_begun_heard) (by with_unfolding_all exact rfl) ?_))
/-- begun -/
abbrev F_begun (K : PySem.W.Frag) : FSp := fun ws c Q E => ∃ (l : List Ru) (d : D) (k : Bool) (h : List HV), clo c.length c = true ∧ l.length ≤ 1000 ∧ h.length ≤ 1000 ∧ (∀ x ∈ h, x.ok) ∧ Pl 50 d ∧ ws = [.im (clockD K l), .im d, .im (lotD k (h.map HV.d))] ∧ (isSmallD d = false → E ⟨He.ga K "BadLand", [], []⟩ c) ∧ (∀ x y, d = .tup [.int x, .int y] → isSmallD d = true → Q (.im (.lst (natsD (begH (dayS l x y) h)))) c)
theorem ok_begun (T : Tx K mg) : HasFn P w K mg base 5 "begun" P_begun (F_begun K) := by
  obtain ⟨f, fd, hm, Fu⟩ := T.f_begun
  refine ⟨f, fd, hm, Fu.kp, fn_w Fu sc_begun (fun ws c Q E => ?_) (fun cdv A outer s H E ws c Q Qx hr hF => ?_), Fu.binds fun _ _ _ _ _ _ us hl => match us, hl with | [_, _, _], _ => rfl⟩
  · rintro ⟨l, d, k, h, hc, hl, hh, hh2, hp, rfl, he, hq⟩; rfl
  obtain ⟨l, d, k, h, hc, hl, hh, hh2, hp, rfl, he, hq⟩ := hF
  have hnd : N_begun.Nodup := sc_begun.nd
  change WSs _ _ [_, _, _] _ _ _
  refine wss_cons ?_
  walk_at "w"
  refine ⟨d, hc, hp, rfl, fun hL => ?_, fun hL => ⟨hc, by rw [List.take_length]; exact he hL⟩⟩
  obtain ⟨x, y, rfl, hx, hy, hxy, hx2, hy2, hL2⟩ := small_inv hL
  have hq := hq x y rfl hL
  have hxy0 : 0 < x * y := Int.mul_pos (by omega) (by omega)
  have hsl := dayS_len l x y
  unfold clockD
  walk_at "w"
  refine ⟨l, x, y, hc, hx, by omega, hy, by omega, by omega, hl, rfl, ?_⟩
  rw [dayL_dayS]
  walk_at "w"
  refine ⟨k, dayS l x y, h, by omega, hh, by omega, dayS_two, hh2, rfl, ?_⟩
  walk_at "w"
local macro_rules | `(tactic| walk_at "call") => `(tactic| ((with_reducible show WE _ _ _ (.Call (.Name (Str.ofString "begun") _) _ _ _) _); with_reducible refine we_callF (ok_begun (by assumption)) (by with_unfolding_all exact ⟨rfl, rfl, rfl, rfl, rfl⟩) (by with_unfolding_all exact L2.Room.mono (by assumption) (by decide)) (by with_unfolding_all exact rfl) (by with_unfolding_all exact rfl) (by with_unfolding_all exact rfl) (by with_unfolding_all exact rfl) ?_))
theorem nm_listening_clock : nmB N_listening (defScope s_listening) "clock" 0 = true := by decide +kernel
theorem nm_listening_land : nmB N_listening (defScope s_listening) "land" 1 = true := by decide +kernel
theorem nm_listening_sounds : nmB N_listening (defScope s_listening) "sounds" 2 = true := by decide +kernel
theorem st_listening_sounds : stB N_listening (defScope s_listening) "sounds" 2 = true := by decide +kernel
theorem nm_listening_many : nmB N_listening (defScope s_listening) "many" 3 = true := by decide +kernel
theorem st_listening_many : stB N_listening (defScope s_listening) "many" 3 = true := by decide +kernel
theorem nm_listening_groups : nmB N_listening (defScope s_listening) "groups" 4 = true := by decide +kernel
theorem st_listening_groups : stB N_listening (defScope s_listening) "groups" 4 = true := by decide +kernel
theorem nm_listening_length : nmB N_listening (defScope s_listening) "length" 5 = true := by decide +kernel
theorem st_listening_length : stB N_listening (defScope s_listening) "length" 5 = true := by decide +kernel
theorem nm_listening_later : nmB N_listening (defScope s_listening) "later" 6 = true := by decide +kernel
theorem st_listening_later : stB N_listening (defScope s_listening) "later" 6 = true := by decide +kernel
theorem nm_listening_group : nmB N_listening (defScope s_listening) "group" 7 = true := by decide +kernel
theorem st_listening_group : stB N_listening (defScope s_listening) "group" 7 = true := by decide +kernel
theorem nm_listening_parts : nmB N_listening (defScope s_listening) "parts" 8 = true := by decide +kernel
theorem st_listening_parts : stB N_listening (defScope s_listening) "parts" 8 = true := by decide +kernel
theorem nm_listening_moment : nmB N_listening (defScope s_listening) "moment" 9 = true := by decide +kernel
theorem st_listening_moment : stB N_listening (defScope s_listening) "moment" 9 = true := by decide +kernel
local macro_rules | `(tactic| walk_at "n") => `(tactic| first
  | ((with_reducible show WE _ _ _ (.Name (Str.ofString "clock") _) _); with_reducible refine we_nm (by with_unfolding_all exact nm_listening_clock) (by with_unfolding_all exact rfl) ?_)
  | ((with_reducible show WE _ _ _ (.Name (Str.ofString "land") _) _); with_reducible refine we_nm (by with_unfolding_all exact nm_listening_land) (by with_unfolding_all exact rfl) ?_)
  | ((with_reducible show WE _ _ _ (.Name (Str.ofString "sounds") _) _); with_reducible refine we_nm (by with_unfolding_all exact nm_listening_sounds) (by with_unfolding_all exact rfl) ?_)
  | ((with_reducible show WE _ _ _ (.Name (Str.ofString "many") _) _); with_reducible refine we_nm (by with_unfolding_all exact nm_listening_many) (by with_unfolding_all exact rfl) ?_)
  | ((with_reducible show WE _ _ _ (.Name (Str.ofString "groups") _) _); with_reducible refine we_nm (by with_unfolding_all exact nm_listening_groups) (by with_unfolding_all exact rfl) ?_)
  | ((with_reducible show WE _ _ _ (.Name (Str.ofString "length") _) _); with_reducible refine we_nm (by with_unfolding_all exact nm_listening_length) (by with_unfolding_all exact rfl) ?_)
  | ((with_reducible show WE _ _ _ (.Name (Str.ofString "later") _) _); with_reducible refine we_nm (by with_unfolding_all exact nm_listening_later) (by with_unfolding_all exact rfl) ?_)
  | ((with_reducible show WE _ _ _ (.Name (Str.ofString "group") _) _); with_reducible refine we_nm (by with_unfolding_all exact nm_listening_group) (by with_unfolding_all exact rfl) ?_)
  | ((with_reducible show WE _ _ _ (.Name (Str.ofString "parts") _) _); with_reducible refine we_nm (by with_unfolding_all exact nm_listening_parts) (by with_unfolding_all exact rfl) ?_)
  | ((with_reducible show WE _ _ _ (.Name (Str.ofString "moment") _) _); with_reducible refine we_nm (by with_unfolding_all exact nm_listening_moment) (by with_unfolding_all exact rfl) ?_))
local macro_rules | `(tactic| walk_at "set") => `(tactic| first
  | ((with_reducible show WS _ _ _ _ (.Assign [.Name (Str.ofString "sounds") _] _ _) _); with_reducible refine ws_st (by with_unfolding_all exact st_listening_sounds) (by with_unfolding_all assumption) (by with_unfolding_all exact rfl) (by with_unfolding_all exact rfl) ?_)
  | ((with_reducible show WS _ _ _ _ (.Assign [.Name (Str.ofString "many") _] _ _) _); with_reducible refine ws_st (by with_unfolding_all exact st_listening_many) (by with_unfolding_all assumption) (by with_unfolding_all exact rfl) (by with_unfolding_all exact rfl) ?_)
  | ((with_reducible show WS _ _ _ _ (.Assign [.Name (Str.ofString "groups") _] _ _) _); with_reducible refine ws_st (by with_unfolding_all exact st_listening_groups) (by with_unfolding_all assumption) (by with_unfolding_all exact rfl) (by with_unfolding_all exact rfl) ?_)
  | ((with_reducible show WS _ _ _ _ (.Assign [.Name (Str.ofString "length") _] _ _) _); with_reducible refine ws_st (by with_unfolding_all exact st_listening_length) (by with_unfolding_all assumption) (by with_unfolding_all exact rfl) (by with_unfolding_all exact rfl) ?_)
  | ((with_reducible show WS _ _ _ _ (.Assign [.Name (Str.ofString "later") _] _ _) _); with_reducible refine ws_st (by with_unfolding_all exact st_listening_later) (by with_unfolding_all assumption) (by with_unfolding_all exact rfl) (by with_unfolding_all exact rfl) ?_)
  | ((with_reducible show WS _ _ _ _ (.Assign [.Name (Str.ofString "group") _] _ _) _); with_reducible refine ws_st (by with_unfolding_all exact st_listening_group) (by with_unfolding_all assumption) (by with_unfolding_all exact rfl) (by with_unfolding_all exact rfl) ?_)
  | ((with_reducible show WS _ _ _ _ (.Assign [.Name (Str.ofString "parts") _] _ _) _); with_reducible refine ws_st (by with_unfolding_all exact st_listening_parts) (by with_unfolding_all assumption) (by with_unfolding_all exact rfl) (by with_unfolding_all exact rfl) ?_)
  | ((with_reducible show WS _ _ _ _ (.Assign [.Name (Str.ofString "moment") _] _ _) _); with_reducible refine ws_st (by with_unfolding_all exact st_listening_moment) (by with_unfolding_all assumption) (by with_unfolding_all exact rfl) (by with_unfolding_all exact rfl) ?_))
local macro_rules | `(tactic| walk_at "aug") => `(tactic| first
  | ((with_reducible show WS _ _ _ _ (.AugAssign (.Name (Str.ofString "sounds") _) _ _ _) _); with_reducible refine ws_ag (by with_unfolding_all exact st_listening_sounds) (by with_unfolding_all assumption) (by with_unfolding_all exact rfl) (by with_unfolding_all exact rfl) ?_)
  | ((with_reducible show WS _ _ _ _ (.AugAssign (.Name (Str.ofString "many") _) _ _ _) _); with_reducible refine ws_ag (by with_unfolding_all exact st_listening_many) (by with_unfolding_all assumption) (by with_unfolding_all exact rfl) (by with_unfolding_all exact rfl) ?_)
  | ((with_reducible show WS _ _ _ _ (.AugAssign (.Name (Str.ofString "groups") _) _ _ _) _); with_reducible refine ws_ag (by with_unfolding_all exact st_listening_groups) (by with_unfolding_all assumption) (by with_unfolding_all exact rfl) (by with_unfolding_all exact rfl) ?_)
  | ((with_reducible show WS _ _ _ _ (.AugAssign (.Name (Str.ofString "length") _) _ _ _) _); with_reducible refine ws_ag (by with_unfolding_all exact st_listening_length) (by with_unfolding_all assumption) (by with_unfolding_all exact rfl) (by with_unfolding_all exact rfl) ?_)
  | ((with_reducible show WS _ _ _ _ (.AugAssign (.Name (Str.ofString "later") _) _ _ _) _); with_reducible refine ws_ag (by with_unfolding_all exact st_listening_later) (by with_unfolding_all assumption) (by with_unfolding_all exact rfl) (by with_unfolding_all exact rfl) ?_)
  | ((with_reducible show WS _ _ _ _ (.AugAssign (.Name (Str.ofString "group") _) _ _ _) _); with_reducible refine ws_ag (by with_unfolding_all exact st_listening_group) (by with_unfolding_all assumption) (by with_unfolding_all exact rfl) (by with_unfolding_all exact rfl) ?_)
  | ((with_reducible show WS _ _ _ _ (.AugAssign (.Name (Str.ofString "parts") _) _ _ _) _); with_reducible refine ws_ag (by with_unfolding_all exact st_listening_parts) (by with_unfolding_all assumption) (by with_unfolding_all exact rfl) (by with_unfolding_all exact rfl) ?_)
  | ((with_reducible show WS _ _ _ _ (.AugAssign (.Name (Str.ofString "moment") _) _ _ _) _); with_reducible refine ws_ag (by with_unfolding_all exact st_listening_moment) (by with_unfolding_all assumption) (by with_unfolding_all exact rfl) (by with_unfolding_all exact rfl) ?_))
local macro_rules | `(tactic| walk_at "lcV") => `(tactic| first
  | ((with_reducible show WE _ _ _ (.ListComp _ [⟨.Name (Str.ofString "part") _, .Call (.Attribute _ _ _) [] _ _, _, _⟩] _ _) _); with_reducible refine we_lcV (own := [(("part" : Str), 10)]) (Tgt.nm 10) partP (by with_unfolding_all exact rfl) (by with_unfolding_all exact rfl) (by with_unfolding_all assumption) (by with_unfolding_all exact blkOk_by rfl) (by with_unfolding_all decide) (fun b => (by with_unfolding_all exact (pg_name (by with_unfolding_all assumption) (by with_unfolding_all exact rfl) (by with_unfolding_all first | exact Or.inl rfl | exact Or.inr rfl) (by with_unfolding_all first | exact .inl rfl | exact .inr rfl)))) (by with_unfolding_all exact rfl) (by with_unfolding_all exact rfl) (by with_unfolding_all (intro _; exact rfl)) ?_))
local macro_rules | `(tactic| walk_at "for") => `(tactic| first
  | ((with_reducible show WS _ _ _ _ (.For (.Name (Str.ofString "length") _) _ _ _ _) _); with_reducible refine ws_forF (Tgt.nm 5) (by with_unfolding_all exact rfl) (by with_unfolding_all exact (pg_name (by with_unfolding_all assumption) (by with_unfolding_all exact rfl) (by with_unfolding_all first | exact Or.inl rfl | exact Or.inr rfl) (by with_unfolding_all first | exact .inl rfl | exact .inr rfl))) (by with_unfolding_all (intro _; exact rfl)) ?_)
  | ((with_reducible show WS _ _ _ _ (.For (.Name (Str.ofString "group") _) _ _ _ _) _); with_reducible refine ws_forF (Tgt.nm 7) (by with_unfolding_all exact rfl) (by with_unfolding_all exact (pg_name (by with_unfolding_all assumption) (by with_unfolding_all exact rfl) (by with_unfolding_all first | exact Or.inl rfl | exact Or.inr rfl) (by with_unfolding_all first | exact .inl rfl | exact .inr rfl))) (by with_unfolding_all (intro _; exact rfl)) ?_)
  | ((with_reducible show WS _ _ _ _ (.For (.Name (Str.ofString "moment") _) _ _ _ _) _); with_reducible refine ws_forF (Tgt.nm 9) (by with_unfolding_all exact rfl) (by with_unfolding_all exact (pg_name (by with_unfolding_all assumption) (by with_unfolding_all exact rfl) (by with_unfolding_all first | exact Or.inl rfl | exact Or.inr rfl) (by with_unfolding_all first | exact .inl rfl | exact .inr rfl))) (by with_unfolding_all (intro _; exact rfl)) ?_))
/-- listening -/
abbrev F_listening (K : PySem.W.Frag) : FSp := fun ws c Q E => ∃ (l : List Ru) (d : D), clo c.length c = true ∧ l.length ≤ 1000 ∧ Pl 50 d ∧ ws = [.im (clockD K l), .im d] ∧ (isSmallD d = false → E ⟨He.ga K "BadLand", [], []⟩ c) ∧ (∀ x y, d = .tup [.int x, .int y] → isSmallD d = true → Q (.im (lisD (dayS l x y))) c)
theorem ok_listening (T : Tx K mg) : HasFn P w K mg base 5 "listening" P_listening (F_listening K) := by
  obtain ⟨f, fd, hm, Fu⟩ := T.f_listening
  refine ⟨f, fd, hm, Fu.kp, fn_w Fu sc_listening (fun ws c Q E => ?_) (fun cdv A outer s H E ws c Q Qx hr hF => ?_), Fu.binds fun _ _ _ _ _ _ us hl => match us, hl with | [_, _], _ => rfl⟩
  · rintro ⟨l, d, hc, hl, hp, rfl, he, hq⟩; rfl
  obtain ⟨l, d, hc, hl, hp, rfl, he, hq⟩ := hF
  have hnd : N_listening.Nodup := sc_listening.nd
  change WSs _ _ [_, _, _, _, _, _, _, _, _, _, _] _ _ _
  refine wss_cons ?_
  walk_at "w"
  refine ⟨d, hc, hp, rfl, fun hL => ?_, fun hL => ⟨hc, by rw [List.take_length]; exact he hL⟩⟩
  obtain ⟨x, y, rfl, hx, hy, hxy, hx2, hy2, hL2⟩ := small_inv hL
  have hq := hq x y rfl hL
  have hxy0 : 0 < x * y := Int.mul_pos (by omega) (by omega)
  have hsl := dayS_len l x y
  have hs2 := dayS_two (l := l) (a := x) (b := y)
  unfold clockD
  walk_at "w"
  refine ⟨l, x, y, hc, hx, by omega, hy, by omega, by omega, hl, rfl, ?_⟩
  rw [dayL_dayS]
  generalize dayS l x y = ss at *
  have h1 : 0 < ss.length := by omega
  have h4 : ss.length ≤ 400 := by omega
  have hz : (ss.map sndD).length ≤ 1000000 := by rw [List.length_map]; omega
  walk_at "w"
  refine ⟨_, _, rfl, rfl, ?_⟩
  have e0 : ([.lst (rangeD 0 ((((ss.map sndD).length : Nat) : Int)).toNat)] : List D) = grpsD (grpL ss 0) := by
    rw [nats_rng, Int.toNat_natCast, List.length_map]; rfl
  rw [e0]
  have en : ((((ss.map sndD).length : Nat) : Int) + 1 - 1).toNat = ss.length := by rw [List.length_map]; omega
  rw [en]
  refine forask (fun i ρ' c' => c = c' ∧ (∀ L, 1 ≤ L → L ≤ i → grpL ss L ≠ []) ∧ ∃ x5 x6 x7 x8 x9, ρ' = [some (.im (.obj (He.ga K "Clock") ["rows"] [rusD l])), some (.im (.tup [.int x, .int y])), some (.im (.lst (ss.map sndD))), some (.im (.int ((ss.map sndD).length : Nat))), some (.im (.lst (grpsD (grpL ss i)))), x5, x6, x7, x8, x9, none]) ⟨rfl, fun L a b => absurd (Nat.le_trans a b) (by decide), none, none, none, none, none, rfl⟩ (fun i d ρ' c' hd hP => ?_) (fun ρ' c' hP => ?_)
  · obtain ⟨rfl, hbef, x5, x6, x7, x8, x9, rfl⟩ := hP
    obtain ⟨hi, rfl⟩ := rangeD_get hd
    refine ⟨trivial, ?_⟩
    change WSs _ _ [_, _, _, _, _, _, _, _, _, _, _] _ _ _
    walk_at "w"
    refine wi_seq ?_
    walk_at "w"
    refine ⟨_, .inl rfl, ?_⟩
    refine forask (fun j ρ' c' => ∃ J : List Cell, c' = c ++ [.lst (grpsD (((grpL ss i).take j).flatMap (stepG (keyAt ss i))))] ++ J ∧ ∃ x7 x8 x9, ρ' = [some (.im (.obj (He.ga K "Clock") ["rows"] [rusD l])), some (.im (.tup [.int x, .int y])), some (.im (.lst (ss.map sndD))), some (.im (.int ((ss.map sndD).length : Nat))), some (.im (.lst (grpsD (grpL ss i)))), some (.im (.int (1 + (i : Nat)))), some (.ce c.length), x7, x8, x9, none]) ⟨[], by simp [grpsD], x7, x8, x9, rfl⟩ (fun j d ρ' c' hd hP => ?_) (fun ρ' c' hP => ?_)
    · obtain ⟨J, rfl, x7, x8, x9, rfl⟩ := hP
      unfold grpsD at hd
      rw [List.getElem?_map] at hd
      obtain ⟨g, hg, rfl⟩ := Option.map_eq_some_iff.mp hd
      refine ⟨trivial, ?_⟩
      change WSs _ _ [_, _, _, _, _, _, _, _, _, _, _] _ _ _
      have hG0 := pre_cnt ss i j (keyAt ss i)
      have hG1 := pre_cnt ss i (j + 1) (keyAt ss i)
      rw [flat_ts hg] at hG1 ⊢
      have hgl : g.length ≤ ss.length := grp_one (List.mem_of_getElem? hg)
      have hgm := (grp_in i g (List.mem_of_getElem? hg)).2.1
      generalize ((grpL ss i).take j).flatMap (stepG (keyAt ss i)) = G0 at hG0 hG1 ⊢
      rw [List.length_append] at hG1
      obtain ⟨B, hB⟩ : ∃ B, B = c ++ [Cell.lst (grpsD G0)] := ⟨_, rfl⟩
      have hBl : B.length = c.length + 1 := by rw [hB]; simp
      have hBc : clo B.length B = true := by rw [hB]; exact clo_app1 hc
      have hBn : c.length < B.length := by omega
      have hBat : B[c.length]? = some (.lst (grpsD G0)) := by rw [hB]; exact cel_0
      rw [← hB]
      refine @wss_drop _ _ B [some (.im (.obj (He.ga K "Clock") ["rows"] [rusD l])), some (.im (.tup [.int x, .int y])), some (.im (.lst (ss.map sndD))), some (.im (.int ((ss.map sndD).length : Nat))), some (.im (.lst (grpsD (grpL ss i)))), some (.im (.int (1 + (i : Nat)))), some (.ce c.length), some (.im (.lst (natsD g))), none, none, none] _ _ _ J (by rw [hB]; simp) hBc (by simp [DropOk, W.below]; omega) ?_
      refine wss_cut (fun ρ' c' => c' = B ++ [.dic [] []] ∧ ρ' = [some (.im (.obj (He.ga K "Clock") ["rows"] [rusD l])), some (.im (.tup [.int x, .int y])), some (.im (.lst (ss.map sndD))), some (.im (.int ((ss.map sndD).length : Nat))), some (.im (.lst (grpsD (grpL ss i)))), some (.im (.int (1 + (i : Nat)))), some (.ce c.length), some (.im (.lst (natsD g))), some (.ce B.length), none, none]) ?_ (fun ρ' c' hP => ?_)
      · walk_at "set"
        refine we_dicC ?_
        exact ⟨rfl, rfl⟩
      obtain ⟨rfl, rfl⟩ := hP
      refine wss_nd0 (K := K) (P := P) (wd := w) (n := B.length) rfl rfl cel_0 ?_
      rw [set_0]
      refine wss_cut (fun ρ' c' => c' = B ++ [ndC K P w ((keysP (keyAt ss i) g g.length).map skS) ((ixP (keyAt ss i) g g.length).map fun q => .ce (B.length + 1 + q))] ++ (cellsP (keyAt ss i) g g.length).map lstC ∧ ∃ x9 : Option D, ρ' = [some (.im (.obj (He.ga K "Clock") ["rows"] [rusD l])), some (.im (.tup [.int x, .int y])), some (.im (.lst (ss.map sndD))), some (.im (.int ((ss.map sndD).length : Nat))), some (.im (.lst (grpsD (grpL ss i)))), some (.im (.int (1 + (i : Nat)))), some (.ce c.length), some (.im (.lst (natsD g))), some (.ce B.length), x9.map W.im, none]) ?_ (fun ρ' c' hP => ?_)
      · walk_at "for"
        refine wi_seq ?_
        walk_at "w"
        refine ⟨_, .inl rfl, ?_⟩
        refine forask (fun t ρ' c' => c' = B ++ [ndC K P w ((keysP (keyAt ss i) g t).map skS) ((ixP (keyAt ss i) g t).map fun q => .ce (B.length + 1 + q))] ++ (cellsP (keyAt ss i) g t).map lstC ∧ ∃ x9 : Option D, ρ' = [some (.im (.obj (He.ga K "Clock") ["rows"] [rusD l])), some (.im (.tup [.int x, .int y])), some (.im (.lst (ss.map sndD))), some (.im (.int ((ss.map sndD).length : Nat))), some (.im (.lst (grpsD (grpL ss i)))), some (.im (.int (1 + (i : Nat)))), some (.ce c.length), some (.im (.lst (natsD g))), some (.ce B.length), x9.map W.im, none]) ⟨by simp [keysP, ixP, cellsP], none, rfl⟩ (fun t d ρ' c' hd hP => ?_) (fun ρ' c' hP => ?_)
        · obtain ⟨rfl, x9, rfl⟩ := hP
          unfold natsD at hd
          rw [List.getElem?_map] at hd
          obtain ⟨m, hm, rfl⟩ := Option.map_eq_some_iff.mp hd
          have ht : t < g.length := (List.getElem?_eq_some_iff.mp hm).1
          refine ⟨trivial, ?_⟩
          change WSs _ _ [_, _, _, _, _, _, _, _, _, _, _] _ _ _
          have hat := key_at (ss := ss) (m := m) (i := i) h1
          have hkl := keysP_len (key := keyAt ss i) (g := g) (i := t)
          have hcl := cells_len (key := keyAt ss i) (g := g) (i := t)
          have hpos : (0 : Int) < (((ss.map sndD).length : Nat) : Int) := by rw [List.length_map]; omega
          refine wss_one ?_
          walk_at "stmt"
          walk_at "meth"
          refine we_nset (K := K) (P := P) (wd := w) rfl rfl rfl (by with_unfolding_all exact L2.Room.units (by assumption)) (by with_unfolding_all exact ⟨rfl, rfl, rfl, rfl⟩) ?_
          walk_at "n"
          refine ⟨B.length, _, _, rfl, nd_at, ?_⟩
          walk_at "w"
          refine ⟨skS (keyAt ss i m), by rw [skS_D], ?_⟩
          refine we_lstC ?_
          walk_at "w"
          have hmore : ∀ nd : Cell, B ++ [nd] ++ (cellsP (keyAt ss i) g t).map lstC ++ [Cell.lst []] = B ++ [nd] ++ (cellsP (keyAt ss i) g t ++ [[]]).map lstC := fun nd => lst_more (B := B) (nd := nd) (Ls := cellsP (keyAt ss i) g t) (l := [])
          refine ⟨_, _, _, rfl, by rw [hmore]; exact nd_at, keys_sk (by omega), by rw [List.length_map]; omega, fun q hq => ?_, fun hno => ?_⟩
          · obtain ⟨j2, hj, hji, ec, ei, ek⟩ := cells_old hm (nats_skS hq)
            have hjx : ((ixP (keyAt ss i) g t).map fun q => W.ce (B.length + 1 + q))[q]? = some (.ce (B.length + 1 + j2)) := by rw [List.getElem?_map, hj]; rfl
            have hold : (cellsP (keyAt ss i) g t ++ [[]]).getD j2 [] = (cellsP (keyAt ss i) g t).getD j2 [] := by
              rw [List.getD_eq_getElem?_getD, List.getD_eq_getElem?_getD, List.getElem?_append_left (by omega)]
            refine ⟨_, hjx, ?_⟩
            rw [hmore]
            have hcell := lst_at (B := B) (nd := ndC K P w ((keysP (keyAt ss i) g t).map skS) ((ixP (keyAt ss i) g t).map fun q => .ce (B.length + 1 + q))) (Ls := cellsP (keyAt ss i) g t ++ [[]]) (q := j2) (by rw [List.length_append]; omega)
            rw [hold] at hcell
            have hz3 : (natsD ((cellsP (keyAt ss i) g t).getD j2 [])).length < 1000000 := by
              rw [natsD_len]
              refine Nat.lt_of_le_of_lt (Nat.le_trans ?_ hgl) (by omega)
              unfold cellsP
              rw [List.getD_eq_getElem?_getD, List.getElem?_map, List.getElem?_range hji]
              show (cellP (keyAt ss i) g t j2).length ≤ _
              unfold cellP
              split
              · exact Nat.le_trans (List.length_filter_le _ _) (List.length_take_le' _ _)
              · exact Nat.zero_le _
            refine ⟨⟨_, Sn.lst hcell⟩, ?_⟩
            refine wa_cons ?_ (by with_unfolding_all exact rfl)
            walk_at "n"
            refine wa_nil ?_
            refine wm_appendE hcell hz3 rfl ?_
            rw [natsD_snoc]
            refine ⟨?_, some (.int (m : Int)), rfl⟩
            rw [ek, ei, ec]
            refine Eq.trans (lst_set (l := (cellsP (keyAt ss i) g t).getD j2 [] ++ [m])) ?_
            rw [List.set_append_left _ _ (by omega)]
          · obtain ⟨ec, ei, ek⟩ := cells_new hm (not_skS hno)
            rw [hmore, nd_set, lst_mlen, hcl]
            have hcell := lst_at (B := B) (nd := ndC K P w ((keysP (keyAt ss i) g t).map skS ++ [skS (keyAt ss i m)]) (((ixP (keyAt ss i) g t).map fun q => .ce (B.length + 1 + q)) ++ [.ce (B.length + 1 + t)])) (Ls := cellsP (keyAt ss i) g t ++ [[]]) (q := t) (by rw [List.length_append, hcl]; simp)
            have hnew : (cellsP (keyAt ss i) g t ++ [[]]).getD t [] = [] := by
              rw [List.getD_eq_getElem?_getD, List.getElem?_append_right (by omega), hcl, Nat.sub_self]; rfl
            rw [hnew] at hcell
            refine ⟨⟨_, Sn.lst hcell⟩, ?_⟩
            refine wa_cons ?_ (by with_unfolding_all exact rfl)
            walk_at "n"
            refine wa_nil ?_
            refine wm_appendE hcell (by decide) rfl ?_
            refine ⟨?_, some (.int (m : Int)), rfl⟩
            have hk2 : (keysP (keyAt ss i) g t ++ [keyAt ss i m]).map skS = (keysP (keyAt ss i) g t).map skS ++ [skS (keyAt ss i m)] := by rw [List.map_append]; rfl
            have hx2 : (ixP (keyAt ss i) g t ++ [t]).map (fun q => W.ce (B.length + 1 + q)) = ((ixP (keyAt ss i) g t).map fun q => W.ce (B.length + 1 + q)) ++ [.ce (B.length + 1 + t)] := by rw [List.map_append]; rfl
            rw [ek, ei, ec, hk2, hx2]
            refine Eq.trans (lst_set (B := B) (nd := ndC K P w ((keysP (keyAt ss i) g t).map skS ++ [skS (keyAt ss i m)]) (((ixP (keyAt ss i) g t).map fun q => .ce (B.length + 1 + q)) ++ [.ce (B.length + 1 + t)])) (Ls := cellsP (keyAt ss i) g t ++ [[]]) (q := t) (l := [m])) ?_
            have : (cellsP (keyAt ss i) g t ++ [[]]).set t [m] = cellsP (keyAt ss i) g t ++ [[m]] := by
              rw [List.set_append_right _ _ (by omega), hcl, Nat.sub_self]; rfl
            rw [this]
        · obtain ⟨rfl, x9, rfl⟩ := hP
          rw [natsD_len]
          exact ⟨rfl, x9, rfl⟩
      · obtain ⟨rfl, x9, rfl⟩ := hP
        have hcm : (cellsP (keyAt ss i) g g.length).map lstC = ((cellsP (keyAt ss i) g g.length).map natsD).map Cell.lst := by rw [List.map_map]; rfl
        rw [hcm]
        refine wss_ndfrz (K := K) (P := P) (wd := w) rfl rfl rfl (by rw [hB]; simp) hBc (fun q v hv => ?_) (fun q hq => by rw [List.length_map, cells_len]; exact ix_lt q hq) (fun es ep => ?_)
        · have hd : DropOk (B.length + 1) [some (.im (.obj (He.ga K "Clock") ["rows"] [rusD l])), some (.im (.tup [.int x, .int y])), some (.im (.lst (ss.map sndD))), some (.im (.int ((ss.map sndD).length : Nat))), some (.im (.lst (grpsD (grpL ss i)))), some (.im (.int (1 + (i : Nat)))), some (.ce c.length), some (.im (.lst (natsD g))), some (.ce B.length), x9.map W.im, none] [some (.im (.obj (He.ga K "Clock") ["rows"] [rusD l])), some (.im (.tup [.int x, .int y])), some (.im (.lst (ss.map sndD))), some (.im (.int ((ss.map sndD).length : Nat))), some (.im (.lst (grpsD (grpL ss i)))), some (.im (.int (1 + (i : Nat)))), some (.ce c.length), some (.im (.lst (natsD g))), some (.ce B.length), x9.map W.im, none] := by
            cases x9 <;> (simp [DropOk, W.below]; try omega)
          exact ((hd.get).2 q v hv).2
        have hlat : (B ++ [rdC K es ep ((ixP (keyAt ss i) g g.length).map fun j => ((cellsP (keyAt ss i) g g.length).map natsD).getD j [])])[c.length]? = some (.lst (grpsD G0)) := by
          rw [List.getElem?_append_left hBn]; exact hBat
        refine wss_one ?_
        walk_at "stmt"
        walk_at "meth"
        walk_at "n"
        refine ⟨⟨_, Sn.lst hlat⟩, ?_⟩
        refine wa_cons ?_ (by with_unfolding_all exact rfl)
        walk_at "lcV"
        walk_at "n"
        refine ⟨B.length, es, ep, _, rfl, cel_0, ?_, fun q L hL => ⟨trivial, fun b => ?_, fun b => ?_⟩, ?_⟩
        · rw [List.length_map]
          unfold ixP
          exact Nat.le_trans (List.length_filter_le _ _) (by rw [List.length_range]; omega)
        · have hLl : L.length ≤ 1000000 := Nat.le_trans (part_len hL) (by omega)
          walk_at "w"
          exact ⟨rfl, rfl⟩
        · walk_at "w"
          exact ⟨rfl, rfl⟩
        rw [parts_D]
        refine wa_nil ?_
        refine wm_extend hlat .im (by rw [grpsD_len, grpsD_len]; omega) ?_
        rw [grpsD_app, hB, set_1]
        exact ⟨_, rfl, _, _, _, rfl⟩
    · obtain ⟨J, rfl, x7, x8, x9, rfl⟩ := hP
      rw [grpsD_len, List.take_length]
      change WSs _ _ _ (c ++ [.lst (grpsD (grpL ss (i + 1)))] ++ J) _ _
      have hgc := pre_cnt ss i (grpL ss i).length (keyAt ss i)
      rw [List.take_length] at hgc
      have hpl : Pl 4 (.lst (grpsD (grpL ss (i + 1)))) := pl_grps (Nat.le_trans hgc (by omega)) (fun g hg => Nat.le_trans (grp_one hg) (by omega))
      obtain ⟨GG, hGG⟩ : ∃ GG, GG = grpL ss (i + 1) := ⟨_, rfl⟩
      rw [← hGG] at hpl ⊢
      have hd : DropOk (c ++ [Cell.lst (grpsD GG)]).length [some (.im (.obj (He.ga K "Clock") ["rows"] [rusD l])), some (.im (.tup [.int x, .int y])), some (.im (.lst (ss.map sndD))), some (.im (.int ((ss.map sndD).length : Nat))), some (.im (.lst (grpsD (grpL ss i)))), some (.im (.int (1 + (i : Nat)))), some (.ce c.length), none, none, none, none] [some (.im (.obj (He.ga K "Clock") ["rows"] [rusD l])), some (.im (.tup [.int x, .int y])), some (.im (.lst (ss.map sndD))), some (.im (.int ((ss.map sndD).length : Nat))), some (.im (.lst (grpsD (grpL ss i)))), some (.im (.int (1 + (i : Nat)))), some (.ce c.length), x7, x8, x9, none] := by simp [DropOk, W.below]
      refine wss_drop (c := c ++ [Cell.lst (grpsD GG)]) (n0 := c.length) (by simp) (clo_app1 hc) hd ?_
      have hf : FrzOk c.length (.lst (grpsD GG)) [some (.im (.obj (He.ga K "Clock") ["rows"] [rusD l])), some (.im (.tup [.int x, .int y])), some (.im (.lst (ss.map sndD))), some (.im (.int ((ss.map sndD).length : Nat))), some (.im (.lst (grpsD (grpL ss i)))), some (.im (.int (1 + (i : Nat)))), some (.im (.lst (grpsD GG))), none, none, none, none] [some (.im (.obj (He.ga K "Clock") ["rows"] [rusD l])), some (.im (.tup [.int x, .int y])), some (.im (.lst (ss.map sndD))), some (.im (.int ((ss.map sndD).length : Nat))), some (.im (.lst (grpsD (grpL ss i)))), some (.im (.int (1 + (i : Nat)))), some (.ce c.length), none, none, none, none] := by simp [FrzOk, frzW]
      refine @wss_frzS _ _ _ c _ _ _ (grpsD GG) c.length rfl (Nat.le_refl _) hc hf ?_
      walk_at "w"
      rw [deq_grps]
      by_cases hn : GG = []
      · subst hn
        rw [lis_here hi hGG.symm hbef] at hq
        rw [decide_eq_true rfl]
        walk_at "w"
        have e : (1 : Int) + (i : Int) = ((i + 1 : Nat) : Int) := by omega
        rw [e]
        exact hq
      · rw [decide_eq_false hn]
        walk_at "w"
        refine ⟨rfl, fun L a b => ?_, some (.im (.int (1 + (i : Nat)))), some (.im (.lst (grpsD GG))), none, none, none, rfl⟩
        by_cases hLi : L ≤ i
        · exact hbef L a hLi
        · have : L = i + 1 := by omega
          subst this
          rw [← hGG]; exact hn
  · obtain ⟨rfl, hbef, x5, x6, x7, x8, x9, rfl⟩ := hP
    rw [rangeD_len] at hbef
    rw [lis_none hbef] at hq
    walk_at "w"
local macro_rules | `(tactic| walk_at "call") => `(tactic| ((with_reducible show WE _ _ _ (.Call (.Name (Str.ofString "listening") _) _ _ _) _); with_reducible refine we_callF (ok_listening (by assumption)) (by with_unfolding_all exact ⟨rfl, rfl, rfl, rfl, rfl⟩) (by with_unfolding_all exact L2.Room.mono (by assumption) (by decide)) (by with_unfolding_all exact rfl) (by with_unfolding_all exact rfl) (by with_unfolding_all exact rfl) (by with_unfolding_all exact rfl) ?_))
theorem nm_together_one : nmB N_together (defScope s_together) "one" 0 = true := by decide +kernel
theorem nm_together_other : nmB N_together (defScope s_together) "other" 1 = true := by decide +kernel
theorem nm_together_found : nmB N_together (defScope s_together) "found" 2 = true := by decide +kernel
theorem st_together_found : stB N_together (defScope s_together) "found" 2 = true := by decide +kernel
theorem nm_together_land : nmB N_together (defScope s_together) "land" 3 = true := by decide +kernel
theorem st_together_land : stB N_together (defScope s_together) "land" 3 = true := by decide +kernel
theorem nm_together_pairs : nmB N_together (defScope s_together) "pairs" 4 = true := by decide +kernel
theorem st_together_pairs : stB N_together (defScope s_together) "pairs" 4 = true := by decide +kernel
theorem nm_together_does_meet : nmB N_together (defScope s_together) "does_meet" 5 = true := by decide +kernel
theorem st_together_does_meet : stB N_together (defScope s_together) "does_meet" 5 = true := by decide +kernel
local macro_rules | `(tactic| walk_at "n") => `(tactic| first
  | ((with_reducible show WE _ _ _ (.Name (Str.ofString "one") _) _); with_reducible refine we_nm (by with_unfolding_all exact nm_together_one) (by with_unfolding_all exact rfl) ?_)
  | ((with_reducible show WE _ _ _ (.Name (Str.ofString "other") _) _); with_reducible refine we_nm (by with_unfolding_all exact nm_together_other) (by with_unfolding_all exact rfl) ?_)
  | ((with_reducible show WE _ _ _ (.Name (Str.ofString "found") _) _); with_reducible refine we_nm (by with_unfolding_all exact nm_together_found) (by with_unfolding_all exact rfl) ?_)
  | ((with_reducible show WE _ _ _ (.Name (Str.ofString "land") _) _); with_reducible refine we_nm (by with_unfolding_all exact nm_together_land) (by with_unfolding_all exact rfl) ?_)
  | ((with_reducible show WE _ _ _ (.Name (Str.ofString "pairs") _) _); with_reducible refine we_nm (by with_unfolding_all exact nm_together_pairs) (by with_unfolding_all exact rfl) ?_)
  | ((with_reducible show WE _ _ _ (.Name (Str.ofString "does_meet") _) _); with_reducible refine we_nm (by with_unfolding_all exact nm_together_does_meet) (by with_unfolding_all exact rfl) ?_))
local macro_rules | `(tactic| walk_at "set") => `(tactic| first
  | ((with_reducible show WS _ _ _ _ (.Assign [.Name (Str.ofString "found") _] _ _) _); with_reducible refine ws_st (by with_unfolding_all exact st_together_found) (by with_unfolding_all assumption) (by with_unfolding_all exact rfl) (by with_unfolding_all exact rfl) ?_)
  | ((with_reducible show WS _ _ _ _ (.Assign [.Name (Str.ofString "land") _] _ _) _); with_reducible refine ws_st (by with_unfolding_all exact st_together_land) (by with_unfolding_all assumption) (by with_unfolding_all exact rfl) (by with_unfolding_all exact rfl) ?_)
  | ((with_reducible show WS _ _ _ _ (.Assign [.Name (Str.ofString "pairs") _] _ _) _); with_reducible refine ws_st (by with_unfolding_all exact st_together_pairs) (by with_unfolding_all assumption) (by with_unfolding_all exact rfl) (by with_unfolding_all exact rfl) ?_)
  | ((with_reducible show WS _ _ _ _ (.Assign [.Name (Str.ofString "does_meet") _] _ _) _); with_reducible refine ws_st (by with_unfolding_all exact st_together_does_meet) (by with_unfolding_all assumption) (by with_unfolding_all exact rfl) (by with_unfolding_all exact rfl) ?_))
local macro_rules | `(tactic| walk_at "aug") => `(tactic| first
  | ((with_reducible show WS _ _ _ _ (.AugAssign (.Name (Str.ofString "found") _) _ _ _) _); with_reducible refine ws_ag (by with_unfolding_all exact st_together_found) (by with_unfolding_all assumption) (by with_unfolding_all exact rfl) (by with_unfolding_all exact rfl) ?_)
  | ((with_reducible show WS _ _ _ _ (.AugAssign (.Name (Str.ofString "land") _) _ _ _) _); with_reducible refine ws_ag (by with_unfolding_all exact st_together_land) (by with_unfolding_all assumption) (by with_unfolding_all exact rfl) (by with_unfolding_all exact rfl) ?_)
  | ((with_reducible show WS _ _ _ _ (.AugAssign (.Name (Str.ofString "pairs") _) _ _ _) _); with_reducible refine ws_ag (by with_unfolding_all exact st_together_pairs) (by with_unfolding_all assumption) (by with_unfolding_all exact rfl) (by with_unfolding_all exact rfl) ?_)
  | ((with_reducible show WS _ _ _ _ (.AugAssign (.Name (Str.ofString "does_meet") _) _ _ _) _); with_reducible refine ws_ag (by with_unfolding_all exact st_together_does_meet) (by with_unfolding_all assumption) (by with_unfolding_all exact rfl) (by with_unfolding_all exact rfl) ?_))
local macro_rules | `(tactic| walk_at "lc") => `(tactic| first
  | ((with_reducible show WE _ _ _ (.ListComp _ [⟨.Tuple [.Name (Str.ofString "here") _, .Name (Str.ofString "there") _] _ _, _, _, _⟩] _ _) _); with_reducible refine we_lc (own := [(("here" : Str), 6), (("there" : Str), 7)]) (Tgt.tp [6, 7]) (by with_unfolding_all exact rfl) (by with_unfolding_all assumption) (by with_unfolding_all exact blkOk_by rfl) (by with_unfolding_all decide) (fun b => (by with_unfolding_all exact (pg_tup (by with_unfolding_all exact rfl) (pgs_cons (pg_name (by with_unfolding_all assumption) (by with_unfolding_all exact rfl) (by with_unfolding_all first | exact Or.inl rfl | exact Or.inr rfl) (by with_unfolding_all first | exact .inl rfl | exact .inr rfl)) (pgs_cons (pg_name (by with_unfolding_all assumption) (by with_unfolding_all exact rfl) (by with_unfolding_all first | exact Or.inl rfl | exact Or.inr rfl) (by with_unfolding_all first | exact .inl rfl | exact .inr rfl)) (pgs_nil) (by with_unfolding_all exact rfl)) (by with_unfolding_all exact rfl)) (by with_unfolding_all exact rfl) (by with_unfolding_all exact rfl)))) ?_ (by with_unfolding_all (intro _; exact rfl))))
local macro_rules | `(tactic| walk_at "for") => `(tactic| first
  | ((with_reducible show WS _ _ _ _ (.For (.Name (Str.ofString "land") _) _ _ _ _) _); with_reducible refine ws_forF (Tgt.nm 3) (by with_unfolding_all exact rfl) (by with_unfolding_all exact (pg_name (by with_unfolding_all assumption) (by with_unfolding_all exact rfl) (by with_unfolding_all first | exact Or.inl rfl | exact Or.inr rfl) (by with_unfolding_all first | exact .inl rfl | exact .inr rfl))) (by with_unfolding_all (intro _; exact rfl)) ?_))
/-- together -/
abbrev F_together (K : PySem.W.Frag) : FSp := fun ws c Q E => ∃ (l m : List Ru), clo c.length c = true ∧ (∀ r ∈ l, r.ok) ∧ (∀ r ∈ m, r.ok) ∧ l.length ≤ 1000 ∧ m.length ≤ 1000 ∧ ws = [.im (clockD K l), .im (clockD K m)] ∧ Q (.im (.tup [togD (togL (landsL 10) l m true), togD (togL (landsL 10) l m false)])) c
theorem ok_together (T : Tx K mg) : HasFn P w K mg base 5 "together" P_together (F_together K) := by
  obtain ⟨f, fd, hm, Fu⟩ := T.f_together
  refine ⟨f, fd, hm, Fu.kp, fn_w Fu sc_together (fun ws c Q E => ?_) (fun cdv A outer s H E ws c Q Qx hr hF => ?_), Fu.binds fun _ _ _ _ _ _ us hl => match us, hl with | [_, _], _ => rfl⟩
  · rintro ⟨l, m, hc, hl, hm, hll, hml, rfl, hq⟩; rfl
  obtain ⟨l, m, hc, hl, hm, hll, hml, rfl, hq⟩ := hF
  have hnd : N_together.Nodup := sc_together.nd
  change WSs _ _ [_, _, _, _, _, _, _, _] _ _ _
  refine wss_cut (fun ρ' c' => c' = c ++ [.dic [] []] ∧ ρ' = [some (.im (clockD K l)), some (.im (clockD K m)), some (.ce c.length), none, none, none, none, none]) ?_ (fun ρ' c' hP => ?_)
  · walk_at "w"
    refine we_dicC ?_
    exact ⟨rfl, rfl⟩
  obtain ⟨rfl, rfl⟩ := hP
  refine wss_bd0 (n := c.length) cel_0 ?_
  rw [set_0]
  unfold clockD
  walk_at "w"
  refine wi_seq ?_
  walk_at "w"
  refine ⟨10, okM_10, by decide, by decide, rfl, ?_⟩
  refine ⟨_, .inl rfl, ?_⟩
  refine forask (fun i ρ' c' => ∃ ds x3 x4 x5, TogTo l m i ds ∧ c' = c ++ [.xo (BD K P w ds)] ∧ ρ' = [some (.im (.obj (He.ga K "Clock") ["rows"] [rusD l])), some (.im (.obj (He.ga K "Clock") ["rows"] [rusD m])), some (.ce c.length), x3, x4, x5, none, none]) ⟨[], none, none, none, tog_zero, rfl, rfl⟩ (fun i d ρ' c' hd hP => ?_) (fun ρ' c' hP => ?_)
  · obtain ⟨ds, x3, x4, x5, ht, rfl, rfl⟩ := hP
    rw [List.getElem?_map] at hd
    obtain ⟨ab, hab, rfl⟩ := Option.map_eq_some_iff.mp hd
    have hil : i < (landsL 10).length := (List.getElem?_eq_some_iff.mp hab).1
    have h10 : (landsL 10).length ≤ 1000 := by decide
    obtain ⟨a, b⟩ := ab
    obtain ⟨ha, ha2, hb, hb2⟩ := lands_10b _ (List.mem_of_getElem? hab)
    have ha : 2 ≤ a := ha
    have hb : 2 ≤ b := hb
    have ha2 : a ≤ 10 := ha2
    have hb2 : b ≤ 10 := hb2
    have hab2 : a * b ≤ 100 := Int.le_trans (Int.mul_le_mul ha2 hb2 (by omega) (by omega)) (by decide)
    have hcx : clo (c ++ [Cell.xo (BD K P w ds)]).length (c ++ [Cell.xo (BD K P w ds)]) = true := clo_appG hc fun k hk n => by
      rw [List.mem_singleton.mp hk]; rfl
    refine ⟨trivial, ?_⟩
    change WSs _ _ [_, _, _, _, _, _, _, _] _ _ _
    walk_at "w"
    refine ⟨l, a, b, hcx, ha, by omega, hb, by omega, by omega, hll, rfl, ?_⟩
    walk_at "w"
    refine ⟨m, a, b, hcx, ha, by omega, hb, by omega, by omega, hml, rfl, ?_⟩
    refine ⟨_, _, rfl, rfl, ⟨by rw [dayL_len, dayL_len], by rw [dayL_len]; omega⟩, ?_⟩
    have hzl : (zipD (dayL l a b) (dayL m a b)).length = (a * b).toNat := by rw [zipD_len, dayL_len, dayL_len, Nat.min_self]
    walk_at "w"
    refine wi_seq ?_
    walk_at "w"
    refine ⟨_, .inl rfl, ?_⟩
    refine lc_list ((meetsL l m a b).map D.bl) (by rw [List.length_map, meetsL_len, hzl]) (by rw [hzl]; omega) (fun i2 d e hd2 he => ?_) ?_
    · obtain ⟨e1, e2, he1, he2, rfl⟩ := zipD_get hd2
      have hi2 : i2 < (a * b).toNat := by
        have := (List.getElem?_eq_some_iff.mp he1).1
        rw [dayL_len] at this; exact this
      rw [dayL_get hi2] at he1 he2
      have he1 := Option.some.inj he1
      have he2 := Option.some.inj he2
      subst he1 he2
      rw [List.getElem?_map, meetsL_get hi2] at he
      have he := Option.some.inj he
      subst he
      have pl1 := pl_sounds l a b ((i2 : Int) / b) ((i2 : Int) % b)
      have pl2 := pl_sounds m a b ((i2 : Int) / b) ((i2 : Int) % b)
      refine ⟨⟨_, rfl, rfl⟩, fun bk => ?_⟩
      walk_at "w"
      rw [deq_snil]
      by_cases h1 : soundsL l a b ((i2 : Int) / b) ((i2 : Int) % b) = []
      · rw [decide_eq_true h1]
        walk_at "w"
        exact ⟨rfl, rfl⟩
      · rw [decide_eq_false h1]
        walk_at "w"
        rw [deq_snil]
        exact ⟨by simp, rfl⟩
    walk_at "w"
    rw [meetsL_any]
    walk_at "w"
    refine ⟨c.length, ds, rfl, cel_0, ?_⟩
    walk_at "w"
    refine ⟨ds, meetB l m a b, prD (a, b), cel_0, rfl, rfl, by have := ht.len; omega, fun d' hk => ?_, fun hk => ?_⟩
    · exact ⟨ds, _, _, _, tog_old ht hab hk, rfl, rfl⟩
    · rw [set_0]
      exact ⟨_, _, _, _, tog_new ht hab hk, rfl, rfl⟩
  · obtain ⟨ds, x3, x4, x5, ht, rfl, rfl⟩ := hP
    rw [List.length_map] at ht
    have e1 := tog_end ht rfl true
    have e2 := tog_end ht rfl false
    walk_at "w"
    refine ⟨c.length, ds, rfl, cel_0, ?_⟩
    walk_at "w"
    refine ⟨ds, true, .non, cel_0, rfl, rfl, ?_⟩
    rw [e1]
    walk_at "w"
    refine ⟨c.length, ds, rfl, cel_0, ?_⟩
    walk_at "w"
    refine ⟨ds, false, .non, cel_0, rfl, rfl, ?_⟩
    rw [e2]
    walk_at "w"
    refine RtOk.im ?_ (clo_app hc)
    rw [take_app]
    exact hq
local macro_rules | `(tactic| walk_at "call") => `(tactic| ((with_reducible show WE _ _ _ (.Call (.Name (Str.ofString "together") _) _ _ _) _); with_reducible refine we_callF (ok_together (by assumption)) (by with_unfolding_all exact ⟨rfl, rfl, rfl, rfl, rfl⟩) (by with_unfolding_all exact L2.Room.mono (by assumption) (by decide)) (by with_unfolding_all exact rfl) (by with_unfolding_all exact rfl) (by with_unfolding_all exact rfl) (by with_unfolding_all exact rfl) ?_))
theorem nm__law_near__law_d : nmB N__law_near (defScope s__law_near) "_law_d" 0 = true := by decide +kernel
theorem nm__law_near__law_rules_here : nmB N__law_near (defScope s__law_near) "_law_rules_here" 1 = true := by decide +kernel
theorem nm__law_near__law_k : nmB N__law_near (defScope s__law_near) "_law_k" 2 = true := by decide +kernel
theorem st__law_near__law_k : stB N__law_near (defScope s__law_near) "_law_k" 2 = true := by decide +kernel
theorem nm__law_near__law_hours : nmB N__law_near (defScope s__law_near) "_law_hours" 3 = true := by decide +kernel
theorem st__law_near__law_hours : stB N__law_near (defScope s__law_near) "_law_hours" 3 = true := by decide +kernel
theorem nm__law_near__law_parts : nmB N__law_near (defScope s__law_near) "_law_parts" 4 = true := by decide +kernel
theorem st__law_near__law_parts : stB N__law_near (defScope s__law_near) "_law_parts" 4 = true := by decide +kernel
theorem nm__law_near__law_bell : nmB N__law_near (defScope s__law_near) "_law_bell" 5 = true := by decide +kernel
theorem st__law_near__law_bell : stB N__law_near (defScope s__law_near) "_law_bell" 5 = true := by decide +kernel
theorem nm__law_near__law_often : nmB N__law_near (defScope s__law_near) "_law_often" 6 = true := by decide +kernel
theorem st__law_near__law_often : stB N__law_near (defScope s__law_near) "_law_often" 6 = true := by decide +kernel
theorem nm__law_near__law_pick_here : nmB N__law_near (defScope s__law_near) "_law_pick_here" 7 = true := by decide +kernel
theorem st__law_near__law_pick_here : stB N__law_near (defScope s__law_near) "_law_pick_here" 7 = true := by decide +kernel
theorem nm__law_near__law_one : nmB N__law_near (defScope s__law_near) "_law_one" 8 = true := by decide +kernel
theorem st__law_near__law_one : stB N__law_near (defScope s__law_near) "_law_one" 8 = true := by decide +kernel
local macro_rules | `(tactic| walk_at "n") => `(tactic| first
  | ((with_reducible show WE _ _ _ (.Name (Str.ofString "_law_d") _) _); with_reducible refine we_nm (by with_unfolding_all exact nm__law_near__law_d) (by with_unfolding_all exact rfl) ?_)
  | ((with_reducible show WE _ _ _ (.Name (Str.ofString "_law_rules_here") _) _); with_reducible refine we_nm (by with_unfolding_all exact nm__law_near__law_rules_here) (by with_unfolding_all exact rfl) ?_)
  | ((with_reducible show WE _ _ _ (.Name (Str.ofString "_law_k") _) _); with_reducible refine we_nm (by with_unfolding_all exact nm__law_near__law_k) (by with_unfolding_all exact rfl) ?_)
  | ((with_reducible show WE _ _ _ (.Name (Str.ofString "_law_hours") _) _); with_reducible refine we_nm (by with_unfolding_all exact nm__law_near__law_hours) (by with_unfolding_all exact rfl) ?_)
  | ((with_reducible show WE _ _ _ (.Name (Str.ofString "_law_parts") _) _); with_reducible refine we_nm (by with_unfolding_all exact nm__law_near__law_parts) (by with_unfolding_all exact rfl) ?_)
  | ((with_reducible show WE _ _ _ (.Name (Str.ofString "_law_bell") _) _); with_reducible refine we_nm (by with_unfolding_all exact nm__law_near__law_bell) (by with_unfolding_all exact rfl) ?_)
  | ((with_reducible show WE _ _ _ (.Name (Str.ofString "_law_often") _) _); with_reducible refine we_nm (by with_unfolding_all exact nm__law_near__law_often) (by with_unfolding_all exact rfl) ?_)
  | ((with_reducible show WE _ _ _ (.Name (Str.ofString "_law_pick_here") _) _); with_reducible refine we_nm (by with_unfolding_all exact nm__law_near__law_pick_here) (by with_unfolding_all exact rfl) ?_)
  | ((with_reducible show WE _ _ _ (.Name (Str.ofString "_law_one") _) _); with_reducible refine we_nm (by with_unfolding_all exact nm__law_near__law_one) (by with_unfolding_all exact rfl) ?_))
local macro_rules | `(tactic| walk_at "set") => `(tactic| first
  | ((with_reducible show WS _ _ _ _ (.Assign [.Name (Str.ofString "_law_k") _] _ _) _); with_reducible refine ws_st (by with_unfolding_all exact st__law_near__law_k) (by with_unfolding_all assumption) (by with_unfolding_all exact rfl) (by with_unfolding_all exact rfl) ?_)
  | ((with_reducible show WS _ _ _ _ (.Assign [.Name (Str.ofString "_law_hours") _] _ _) _); with_reducible refine ws_st (by with_unfolding_all exact st__law_near__law_hours) (by with_unfolding_all assumption) (by with_unfolding_all exact rfl) (by with_unfolding_all exact rfl) ?_)
  | ((with_reducible show WS _ _ _ _ (.Assign [.Name (Str.ofString "_law_parts") _] _ _) _); with_reducible refine ws_st (by with_unfolding_all exact st__law_near__law_parts) (by with_unfolding_all assumption) (by with_unfolding_all exact rfl) (by with_unfolding_all exact rfl) ?_)
  | ((with_reducible show WS _ _ _ _ (.Assign [.Name (Str.ofString "_law_bell") _] _ _) _); with_reducible refine ws_st (by with_unfolding_all exact st__law_near__law_bell) (by with_unfolding_all assumption) (by with_unfolding_all exact rfl) (by with_unfolding_all exact rfl) ?_)
  | ((with_reducible show WS _ _ _ _ (.Assign [.Name (Str.ofString "_law_often") _] _ _) _); with_reducible refine ws_st (by with_unfolding_all exact st__law_near__law_often) (by with_unfolding_all assumption) (by with_unfolding_all exact rfl) (by with_unfolding_all exact rfl) ?_)
  | ((with_reducible show WS _ _ _ _ (.Assign [.Name (Str.ofString "_law_pick_here") _] _ _) _); with_reducible refine ws_st (by with_unfolding_all exact st__law_near__law_pick_here) (by with_unfolding_all assumption) (by with_unfolding_all exact rfl) (by with_unfolding_all exact rfl) ?_)
  | ((with_reducible show WS _ _ _ _ (.Assign [.Name (Str.ofString "_law_one") _] _ _) _); with_reducible refine ws_st (by with_unfolding_all exact st__law_near__law_one) (by with_unfolding_all assumption) (by with_unfolding_all exact rfl) (by with_unfolding_all exact rfl) ?_))
local macro_rules | `(tactic| walk_at "aug") => `(tactic| first
  | ((with_reducible show WS _ _ _ _ (.AugAssign (.Name (Str.ofString "_law_k") _) _ _ _) _); with_reducible refine ws_ag (by with_unfolding_all exact st__law_near__law_k) (by with_unfolding_all assumption) (by with_unfolding_all exact rfl) (by with_unfolding_all exact rfl) ?_)
  | ((with_reducible show WS _ _ _ _ (.AugAssign (.Name (Str.ofString "_law_hours") _) _ _ _) _); with_reducible refine ws_ag (by with_unfolding_all exact st__law_near__law_hours) (by with_unfolding_all assumption) (by with_unfolding_all exact rfl) (by with_unfolding_all exact rfl) ?_)
  | ((with_reducible show WS _ _ _ _ (.AugAssign (.Name (Str.ofString "_law_parts") _) _ _ _) _); with_reducible refine ws_ag (by with_unfolding_all exact st__law_near__law_parts) (by with_unfolding_all assumption) (by with_unfolding_all exact rfl) (by with_unfolding_all exact rfl) ?_)
  | ((with_reducible show WS _ _ _ _ (.AugAssign (.Name (Str.ofString "_law_bell") _) _ _ _) _); with_reducible refine ws_ag (by with_unfolding_all exact st__law_near__law_bell) (by with_unfolding_all assumption) (by with_unfolding_all exact rfl) (by with_unfolding_all exact rfl) ?_)
  | ((with_reducible show WS _ _ _ _ (.AugAssign (.Name (Str.ofString "_law_often") _) _ _ _) _); with_reducible refine ws_ag (by with_unfolding_all exact st__law_near__law_often) (by with_unfolding_all assumption) (by with_unfolding_all exact rfl) (by with_unfolding_all exact rfl) ?_)
  | ((with_reducible show WS _ _ _ _ (.AugAssign (.Name (Str.ofString "_law_pick_here") _) _ _ _) _); with_reducible refine ws_ag (by with_unfolding_all exact st__law_near__law_pick_here) (by with_unfolding_all assumption) (by with_unfolding_all exact rfl) (by with_unfolding_all exact rfl) ?_)
  | ((with_reducible show WS _ _ _ _ (.AugAssign (.Name (Str.ofString "_law_one") _) _ _ _) _); with_reducible refine ws_ag (by with_unfolding_all exact st__law_near__law_one) (by with_unfolding_all assumption) (by with_unfolding_all exact rfl) (by with_unfolding_all exact rfl) ?_))
local macro_rules | `(tactic| walk_at "par") => `(tactic| first
  | ((with_reducible show WS _ _ _ _ (.Assign [.Tuple [.Name (Str.ofString "_law_hours") _, .Name (Str.ofString "_law_parts") _, .Name (Str.ofString "_law_bell") _, .Name (Str.ofString "_law_often") _] _ _] _ _) _); with_reducible refine ws_unp [3, 4, 5, 6] (by with_unfolding_all exact (pg_tup (by with_unfolding_all exact rfl) (pgs_cons (pg_name (by with_unfolding_all assumption) (by with_unfolding_all exact rfl) (by with_unfolding_all first | exact Or.inl rfl | exact Or.inr rfl) (by with_unfolding_all first | exact .inl rfl | exact .inr rfl)) (pgs_cons (pg_name (by with_unfolding_all assumption) (by with_unfolding_all exact rfl) (by with_unfolding_all first | exact Or.inl rfl | exact Or.inr rfl) (by with_unfolding_all first | exact .inl rfl | exact .inr rfl)) (pgs_cons (pg_name (by with_unfolding_all assumption) (by with_unfolding_all exact rfl) (by with_unfolding_all first | exact Or.inl rfl | exact Or.inr rfl) (by with_unfolding_all first | exact .inl rfl | exact .inr rfl)) (pgs_cons (pg_name (by with_unfolding_all assumption) (by with_unfolding_all exact rfl) (by with_unfolding_all first | exact Or.inl rfl | exact Or.inr rfl) (by with_unfolding_all first | exact .inl rfl | exact .inr rfl)) (pgs_nil) (by with_unfolding_all exact rfl)) (by with_unfolding_all exact rfl)) (by with_unfolding_all exact rfl)) (by with_unfolding_all exact rfl)) (by with_unfolding_all exact rfl) (by with_unfolding_all exact rfl))) (by with_unfolding_all exact rfl) (by with_unfolding_all exact rfl) (by with_unfolding_all exact rfl) ?_))
/-- _law_near -/
abbrev F__law_near (K : PySem.W.Frag) : FSp := fun ws c Q E => ∃ (n : Nat) (dr : Dr) (l : List Ru), c[n]? = some (.lst dr.l) ∧ dr.ok ∧ (∀ r ∈ l, r.ok) ∧ l.length ≤ 4 ∧ ws = [.ce n, .im (rusD l)] ∧ ∀ (dr' : Dr) (m : List Ru), dr'.ok → (∀ r ∈ m, r.ok) → m.length ≤ 4 → Q (.im (rusD m)) (c.set n (.lst dr'.l))
theorem ok__law_near (T : Tx K mg) : HasFn P w K mg base 5 "_law_near" P__law_near (F__law_near K) := by
  obtain ⟨f, fd, hm, Fu⟩ := T.f__law_near
  refine ⟨f, fd, hm, Fu.kp, fn_w Fu sc__law_near (fun ws c Q E => ?_) (fun cdv A outer s H E ws c Q Qx hr hF => ?_), Fu.binds fun _ _ _ _ _ _ us hl => match us, hl with | [_, _], _ => rfl⟩
  · rintro ⟨n, dr, l, hn, hd, hok, hl, rfl, hq⟩; rfl
  obtain ⟨n, dr, l, hn, hd, hok, hl, rfl, hq⟩ := hF
  have hnd : N__law_near.Nodup := sc__law_near.nd
  change WSs _ _ [_, _, _, _, _, _, _, _, _] _ _ _
  have hn1 : ∀ d : Dr, (c.set n (.lst d.l))[n]? = some (.lst d.l) := fun d => cel_s hn
  refine wss_cons ?_
  have hpl : Pl 5 (rusD l) := ⟨by rw [List.length_map]; omega, fun x hx => by obtain ⟨r, _, rfl⟩ := List.mem_map.mp hx; exact pl_ru r⟩
  have hlen : (l.map Ru.d).length ≤ 1000000 := by rw [List.length_map]; omega
  walk_at "w"
  by_cases h0 : l = []
  · subst h0
    refine iteP rfl ?_
    walk_at "w"
    refine ⟨n, dr, 2, hn, hd, by decide, by decide, rfl, fun dr' m h1 h2 h3 => ?_⟩
    walk_at "w"
    refine RtOk.all ?_
    exact hq dr' m h1 h2 (by omega)
  · refine iteN (by rw [rus_ne h0]; exact Bool.false_ne_true) ?_
    have hpos : 0 < l.length := List.length_pos_iff.mpr h0
    unfold rusD
    walk_at "w"
    refine ⟨n, dr, _, hn, hd, by rw [List.length_map]; omega, by rw [List.length_map]; exact wid_of (by omega) (by omega), rfl, fun dr1 k hd1 k0 k1 => ?_⟩
    obtain ⟨k, rfl⟩ := Int.eq_ofNat_of_zero_le k0
    rw [List.length_map] at k1
    have hk : k < l.length := by omega
    obtain ⟨r, hr⟩ : ∃ r, r = l[k] := ⟨_, rfl⟩
    have hrk : r.ok := by rw [hr]; exact hok _ (List.getElem_mem hk)
    have hat : L2.atI (l.map Ru.d) (k : Int) = some (.tup [r.h.d "hour", r.p.d "part", .str (bellS r.low), r.o.d]) := by
      rw [atI_nat (by rw [List.length_map]; exact hk), List.getElem_map, hr]; rfl
    have hcut := rus_cut (l := l) (k := k)
    have htk : (l.take k).length = k := by rw [List.length_take]; omega
    have hdk : (l.drop (k + 1)).length = l.length - (k + 1) := List.length_drop
    have keep : ∀ m : List Ru, (∀ x ∈ m, x.ok) → ∀ y ∈ l.take k ++ m ++ l.drop (k + 1), y.ok := fun m hm y hy => by
      rcases List.mem_append.mp hy with hy | hy
      · rcases List.mem_append.mp hy with hy | hy
        · exact hok y (List.mem_of_mem_take hy)
        · exact hm y hy
      · exact hok y (List.mem_of_mem_drop hy)
    walk_at "w"
    refine ⟨n, dr1, 7, hn1 dr1, hd1, by decide, wid_of (by decide) (by decide), rfl, fun dr2 p hd2 p0 p1 => ?_⟩
    rw [List.set_set]
    have last : ∀ (d : Dr) (x : Ru), d.ok → x.ok → Q (.im (.tup (cutD (l.map Ru.d) none (some (k : Int)) ++ [x.d] ++ cutD (l.map Ru.d) (some ((k : Int) + 1)) none))) (c.set n (.lst d.l)) := fun d x hd hx => by
      have e : cutD (l.map Ru.d) none (some (k : Int)) ++ [x.d] ++ cutD (l.map Ru.d) (some ((k : Int) + 1)) none = (l.take k ++ [x] ++ l.drop (k + 1)).map Ru.d := by
        rw [hcut.1, hcut.2, List.map_append, List.map_append]; rfl
      rw [e]
      refine hq d _ hd (keep [x] fun y hy => by rw [List.mem_singleton.mp hy]; exact hx) ?_
      rw [List.length_append, List.length_append, htk, hdk, List.length_singleton]; omega
    have hc1 : (cutD (l.map Ru.d) none (some (k : Int))).length + 1 ≤ 1000000 := by rw [hcut.1, List.length_map, htk]; omega
    have hc2 : ∀ x : D, (cutD (l.map Ru.d) none (some (k : Int)) ++ [x]).length + (cutD (l.map Ru.d) (some ((k : Int) + 1)) none).length ≤ 1000000 := fun x => by
      rw [hcut.1, hcut.2, List.length_append, List.length_map, List.length_map, htk, hdk, List.length_singleton]; omega
    walk_at "w"
    have hp7 : p = 0 ∨ p = 1 ∨ p = 2 ∨ p = 3 ∨ p = 4 ∨ p = 5 ∨ p = 6 := by omega
    rcases hp7 with rfl | rfl | rfl | rfl | rfl | rfl | rfl
    · walk_at "w"
      refine wo_catT (by rw [hcut.1, hcut.2, List.length_map, List.length_map, htk, hdk]; omega) ?_
      refine RtOk.all ?_
      rw [hcut.1, hcut.2, ← List.map_append]
      refine hq dr2 _ hd2 (fun x hx => hok x (mem_cut hx)) ?_
      rw [List.length_append, htk, hdk]; omega
    · walk_at "w"
      refine RtOk.all ?_
      rw [← List.map_reverse]
      exact hq dr2 _ hd2 (fun x hx => hok x (List.mem_reverse.mp hx)) (by rw [List.length_reverse]; exact hl)
    · walk_at "w"
      by_cases h4 : ((l.map Ru.d).length : Int) < 4
      · refine iteDP h4 ?_
        walk_at "w"
        refine wo_catT (by rw [rus_one hk, List.length_map, List.length_singleton]; omega) ?_
        refine RtOk.all ?_
        have e : l.map Ru.d ++ cutD (l.map Ru.d) (some (k : Int)) (some ((k : Int) + 1)) = (l ++ [l[k]]).map Ru.d := by rw [rus_one hk, List.map_append]; rfl
        rw [e]
        rw [List.length_map] at h4
        refine hq dr2 _ hd2 (fun x hx => ?_) (by rw [List.length_append, List.length_singleton]; omega)
        rcases List.mem_append.mp hx with hx | hx
        · exact hok x hx
        · rw [List.mem_singleton.mp hx]; exact hok _ (List.getElem_mem hk)
      · refine iteDN h4 ?_
        walk_at "w"
        refine ⟨n, dr2, hn1 dr2, hd2, rfl, fun dr3 r2 hd3 hr2 => ?_⟩
        rw [List.set_set]
        walk_at "w"
        first
          | (refine wo_catT hc1 ?_; walk_at "w"; refine wo_catT (hc2 _) ?_; refine RtOk.all ?_)
          | (refine wo_catT (hc2 _) ?_; refine RtOk.all ?_)
          | refine RtOk.all ?_
        exact last dr3 r2 hd3 hr2
    · walk_at "w"
      refine ⟨n, dr2, hn1 dr2, hd2, rfl, fun dr3 r2 hd3 hr2 => ?_⟩
      rw [List.set_set]
      unfold Ru.d
      walk_at "w"
      first
        | (refine wo_catT hc1 ?_; walk_at "w"; refine wo_catT (hc2 _) ?_; refine RtOk.all ?_)
        | (refine wo_catT (hc2 _) ?_; refine RtOk.all ?_)
        | refine RtOk.all ?_
      exact last dr3 ⟨r2.h, r.p, r.low, r.o⟩ hd3 ⟨hr2.1, hrk.2.1, hrk.2.2⟩
    · walk_at "w"
      refine ⟨n, dr2, hn1 dr2, hd2, rfl, fun dr3 r2 hd3 hr2 => ?_⟩
      rw [List.set_set]
      unfold Ru.d
      walk_at "w"
      first
        | (refine wo_catT hc1 ?_; walk_at "w"; refine wo_catT (hc2 _) ?_; refine RtOk.all ?_)
        | (refine wo_catT (hc2 _) ?_; refine RtOk.all ?_)
        | refine RtOk.all ?_
      exact last dr3 ⟨r.h, r2.p, r.low, r.o⟩ hd3 ⟨hrk.1, hr2.2.1, hrk.2.2⟩
    · walk_at "w"
      refine ⟨n, dr2, hn1 dr2, hd2, rfl, fun dr3 r2 hd3 hr2 => ?_⟩
      rw [List.set_set]
      unfold Ru.d
      have hat3 : L2.atI [r2.h.d "hour", r2.p.d "part", .str (bellS r2.low), r2.o.d] 3 = some r2.o.d := rfl
      walk_at "w"
      first
        | (refine wo_catT hc1 ?_; walk_at "w"; refine wo_catT (hc2 _) ?_; refine RtOk.all ?_)
        | (refine wo_catT (hc2 _) ?_; refine RtOk.all ?_)
        | refine RtOk.all ?_
      exact last dr3 ⟨r.h, r.p, r.low, r2.o⟩ hd3 ⟨hrk.1, hrk.2.1, hr2.2.2⟩
    · walk_at "w"
      refine ⟨n, dr2, hn1 dr2, hd2, rfl, fun dr3 r2 hd3 hr2 => ?_⟩
      rw [List.set_set]
      walk_at "w"
      first
        | (refine wo_catT hc1 ?_; walk_at "w"; refine wo_catT (hc2 _) ?_; refine RtOk.all ?_)
        | (refine wo_catT (hc2 _) ?_; refine RtOk.all ?_)
        | refine RtOk.all ?_
      exact last dr3 r2 hd3 hr2
local macro_rules | `(tactic| walk_at "call") => `(tactic| ((with_reducible show WE _ _ _ (.Call (.Name (Str.ofString "_law_near") _) _ _ _) _); with_reducible refine we_callF (ok__law_near (by assumption)) (by with_unfolding_all exact ⟨rfl, rfl, rfl, rfl, rfl⟩) (by with_unfolding_all exact L2.Room.mono (by assumption) (by decide)) (by with_unfolding_all exact rfl) (by with_unfolding_all exact rfl) (by with_unfolding_all exact rfl) (by with_unfolding_all exact rfl) ?_))
theorem nm__law_moment__law_d : nmB N__law_moment (defScope s__law_moment) "_law_d" 0 = true := by decide +kernel
theorem nm__law_moment__law_land : nmB N__law_moment (defScope s__law_moment) "_law_land" 1 = true := by decide +kernel
theorem nm__law_moment__law_hour : nmB N__law_moment (defScope s__law_moment) "_law_hour" 2 = true := by decide +kernel
theorem st__law_moment__law_hour : stB N__law_moment (defScope s__law_moment) "_law_hour" 2 = true := by decide +kernel
local macro_rules | `(tactic| walk_at "n") => `(tactic| first
  | ((with_reducible show WE _ _ _ (.Name (Str.ofString "_law_d") _) _); with_reducible refine we_nm (by with_unfolding_all exact nm__law_moment__law_d) (by with_unfolding_all exact rfl) ?_)
  | ((with_reducible show WE _ _ _ (.Name (Str.ofString "_law_land") _) _); with_reducible refine we_nm (by with_unfolding_all exact nm__law_moment__law_land) (by with_unfolding_all exact rfl) ?_)
  | ((with_reducible show WE _ _ _ (.Name (Str.ofString "_law_hour") _) _); with_reducible refine we_nm (by with_unfolding_all exact nm__law_moment__law_hour) (by with_unfolding_all exact rfl) ?_))
local macro_rules | `(tactic| walk_at "set") => `(tactic| first
  | ((with_reducible show WS _ _ _ _ (.Assign [.Name (Str.ofString "_law_hour") _] _ _) _); with_reducible refine ws_st (by with_unfolding_all exact st__law_moment__law_hour) (by with_unfolding_all assumption) (by with_unfolding_all exact rfl) (by with_unfolding_all exact rfl) ?_))
local macro_rules | `(tactic| walk_at "aug") => `(tactic| first
  | ((with_reducible show WS _ _ _ _ (.AugAssign (.Name (Str.ofString "_law_hour") _) _ _ _) _); with_reducible refine ws_ag (by with_unfolding_all exact st__law_moment__law_hour) (by with_unfolding_all assumption) (by with_unfolding_all exact rfl) (by with_unfolding_all exact rfl) ?_))
/-- _law_moment -/
abbrev F__law_moment (K : PySem.W.Frag) : FSp := fun ws c Q E => ∃ (n : Nat) (dr : Dr) (a b : Int), c[n]? = some (.lst dr.l) ∧ dr.ok ∧ 2 ≤ a ∧ a ≤ G30 ∧ 2 ≤ b ∧ b ≤ G30 ∧ ws = [.ce n, .im (.tup [.int a, .int b])] ∧ ∀ (dr' : Dr) (h p : Int), dr'.ok → 0 ≤ h → h < a → 0 ≤ p → p < b → Q (.im (.int (h * b + p))) (c.set n (.lst dr'.l))
theorem ok__law_moment (T : Tx K mg) : HasFn P w K mg base 3 "_law_moment" P__law_moment (F__law_moment K) := by
  obtain ⟨f, fd, hm, Fu⟩ := T.f__law_moment
  refine ⟨f, fd, hm, Fu.kp, fn_w Fu sc__law_moment (fun ws c Q E => ?_) (fun cdv A outer s H E ws c Q Qx hr hF => ?_), Fu.binds fun _ _ _ _ _ _ us hl => match us, hl with | [_, _], _ => rfl⟩
  · rintro ⟨n, dr, a, b, hn, hd, ha, ha2, hb, hb2, rfl, hq⟩; rfl
  obtain ⟨n, dr, a, b, hn, hd, ha, ha2, hb, hb2, rfl, hq⟩ := hF
  have hnd : N__law_moment.Nodup := sc__law_moment.nd
  change WSs _ _ [_, _, _] _ _ _
  have hn1 : ∀ d : Dr, (c.set n (.lst d.l))[n]? = some (.lst d.l) := fun d => cel_s hn
  unfold G30 at ha2 hb2
  have hwb : Wid b := wid_of (by omega) (by omega)
  refine wss_cons ?_
  walk_at "w"
  refine ⟨n, dr, a, hn, hd, by omega, wid_of (by omega) (by omega), rfl, fun dr1 q hd1 q0 q1 => ?_⟩
  walk_at "w"
  refine ⟨n, dr1, _, hn1 dr1, hd1, Nat.le_of_ble_eq_true rfl, Nat.le_of_ble_eq_true rfl, rfl, fun dr2 x hd2 hx => ?_⟩
  rw [List.set_set]
  obtain ⟨h, rfl, h0, h1⟩ : ∃ h : Int, x = .int h ∧ 0 ≤ h ∧ h < a := by
    simp only [List.mem_cons, List.not_mem_nil, or_false] at hx
    rcases hx with rfl | rfl | rfl | rfl | rfl <;> exact ⟨_, rfl, by omega, by omega⟩
  clear hx
  have hwh : Wid h := wid_of (by omega) (by omega)
  walk_at "w"
  refine ⟨n, dr2, b, hn1 dr2, hd2, by omega, wid_of (by omega) (by omega), rfl, fun dr3 q hd3 q0 q1 => ?_⟩
  rw [List.set_set]
  walk_at "w"
  refine ⟨n, dr3, _, hn1 dr3, hd3, Nat.le_of_ble_eq_true rfl, Nat.le_of_ble_eq_true rfl, rfl, fun dr4 x hd4 hx => ?_⟩
  rw [List.set_set]
  obtain ⟨p, rfl, p0, p1⟩ : ∃ p : Int, x = .int p ∧ 0 ≤ p ∧ p < b := by
    simp only [List.mem_cons, List.not_mem_nil, or_false] at hx
    rcases hx with rfl | rfl | rfl | rfl | rfl <;> exact ⟨_, rfl, by omega, by omega⟩
  clear hx
  walk_at "w"
  refine RtOk.all ?_
  exact hq dr4 h p hd4 h0 h1 p0 p1
local macro_rules | `(tactic| walk_at "call") => `(tactic| ((with_reducible show WE _ _ _ (.Call (.Name (Str.ofString "_law_moment") _) _ _ _) _); with_reducible refine we_callF (ok__law_moment (by assumption)) (by with_unfolding_all exact ⟨rfl, rfl, rfl, rfl, rfl⟩) (by with_unfolding_all exact L2.Room.mono (by assumption) (by decide)) (by with_unfolding_all exact rfl) (by with_unfolding_all exact rfl) (by with_unfolding_all exact rfl) (by with_unfolding_all exact rfl) ?_))
theorem nm_law__law_script : nmB N_law (defScope s_law) "_law_script" 0 = true := by decide +kernel
theorem nm_law__law_d : nmB N_law (defScope s_law) "_law_d" 1 = true := by decide +kernel
theorem st_law__law_d : stB N_law (defScope s_law) "_law_d" 1 = true := by decide +kernel
theorem nm_law__law_rules_here : nmB N_law (defScope s_law) "_law_rules_here" 2 = true := by decide +kernel
theorem st_law__law_rules_here : stB N_law (defScope s_law) "_law_rules_here" 2 = true := by decide +kernel
theorem nm_law__law_other : nmB N_law (defScope s_law) "_law_other" 3 = true := by decide +kernel
theorem st_law__law_other : stB N_law (defScope s_law) "_law_other" 3 = true := by decide +kernel
theorem nm_law__law_here : nmB N_law (defScope s_law) "_law_here" 4 = true := by decide +kernel
theorem st_law__law_here : stB N_law (defScope s_law) "_law_here" 4 = true := by decide +kernel
theorem nm_law__law_there : nmB N_law (defScope s_law) "_law_there" 5 = true := by decide +kernel
theorem st_law__law_there : stB N_law (defScope s_law) "_law_there" 5 = true := by decide +kernel
theorem nm_law__law_are_same : nmB N_law (defScope s_law) "_law_are_same" 6 = true := by decide +kernel
theorem st_law__law_are_same : stB N_law (defScope s_law) "_law_are_same" 6 = true := by decide +kernel
theorem nm_law__law_never : nmB N_law (defScope s_law) "_law_never" 7 = true := by decide +kernel
theorem st_law__law_never : stB N_law (defScope s_law) "_law_never" 7 = true := by decide +kernel
theorem nm_law__law_land : nmB N_law (defScope s_law) "_law_land" 8 = true := by decide +kernel
theorem st_law__law_land : stB N_law (defScope s_law) "_law_land" 8 = true := by decide +kernel
theorem nm_law__law_idle : nmB N_law (defScope s_law) "_law_idle" 9 = true := by decide +kernel
theorem st_law__law_idle : stB N_law (defScope s_law) "_law_idle" 9 = true := by decide +kernel
theorem nm_law__law_turn : nmB N_law (defScope s_law) "_law_turn" 10 = true := by decide +kernel
theorem st_law__law_turn : stB N_law (defScope s_law) "_law_turn" 10 = true := by decide +kernel
theorem nm_law__law_moment_here : nmB N_law (defScope s_law) "_law_moment_here" 11 = true := by decide +kernel
theorem st_law__law_moment_here : stB N_law (defScope s_law) "_law_moment_here" 11 = true := by decide +kernel
theorem nm_law__law_one : nmB N_law (defScope s_law) "_law_one" 12 = true := by decide +kernel
theorem st_law__law_one : stB N_law (defScope s_law) "_law_one" 12 = true := by decide +kernel
theorem nm_law__law_two : nmB N_law (defScope s_law) "_law_two" 13 = true := by decide +kernel
theorem st_law__law_two : stB N_law (defScope s_law) "_law_two" 13 = true := by decide +kernel
theorem nm_law__law_k : nmB N_law (defScope s_law) "_law_k" 14 = true := by decide +kernel
theorem st_law__law_k : stB N_law (defScope s_law) "_law_k" 14 = true := by decide +kernel
theorem nm_law__law_bell : nmB N_law (defScope s_law) "_law_bell" 15 = true := by decide +kernel
theorem st_law__law_bell : stB N_law (defScope s_law) "_law_bell" 15 = true := by decide +kernel
theorem nm_law__law_always : nmB N_law (defScope s_law) "_law_always" 16 = true := by decide +kernel
theorem st_law__law_always : stB N_law (defScope s_law) "_law_always" 16 = true := by decide +kernel
theorem nm_law__law_small : nmB N_law (defScope s_law) "_law_small" 17 = true := by decide +kernel
theorem st_law__law_small : stB N_law (defScope s_law) "_law_small" 17 = true := by decide +kernel
theorem nm_law__law_day : nmB N_law (defScope s_law) "_law_day" 18 = true := by decide +kernel
theorem st_law__law_day : stB N_law (defScope s_law) "_law_day" 18 = true := by decide +kernel
theorem nm_law__law_least : nmB N_law (defScope s_law) "_law_least" 19 = true := by decide +kernel
theorem st_law__law_least : stB N_law (defScope s_law) "_law_least" 19 = true := by decide +kernel
local macro_rules | `(tactic| walk_at "n") => `(tactic| first
  | ((with_reducible show WE _ _ _ (.Name (Str.ofString "_law_script") _) _); with_reducible refine we_nm (by with_unfolding_all exact nm_law__law_script) (by with_unfolding_all exact rfl) ?_)
  | ((with_reducible show WE _ _ _ (.Name (Str.ofString "_law_d") _) _); with_reducible refine we_nm (by with_unfolding_all exact nm_law__law_d) (by with_unfolding_all exact rfl) ?_)
  | ((with_reducible show WE _ _ _ (.Name (Str.ofString "_law_rules_here") _) _); with_reducible refine we_nm (by with_unfolding_all exact nm_law__law_rules_here) (by with_unfolding_all exact rfl) ?_)
  | ((with_reducible show WE _ _ _ (.Name (Str.ofString "_law_other") _) _); with_reducible refine we_nm (by with_unfolding_all exact nm_law__law_other) (by with_unfolding_all exact rfl) ?_)
  | ((with_reducible show WE _ _ _ (.Name (Str.ofString "_law_here") _) _); with_reducible refine we_nm (by with_unfolding_all exact nm_law__law_here) (by with_unfolding_all exact rfl) ?_)
  | ((with_reducible show WE _ _ _ (.Name (Str.ofString "_law_there") _) _); with_reducible refine we_nm (by with_unfolding_all exact nm_law__law_there) (by with_unfolding_all exact rfl) ?_)
  | ((with_reducible show WE _ _ _ (.Name (Str.ofString "_law_are_same") _) _); with_reducible refine we_nm (by with_unfolding_all exact nm_law__law_are_same) (by with_unfolding_all exact rfl) ?_)
  | ((with_reducible show WE _ _ _ (.Name (Str.ofString "_law_never") _) _); with_reducible refine we_nm (by with_unfolding_all exact nm_law__law_never) (by with_unfolding_all exact rfl) ?_)
  | ((with_reducible show WE _ _ _ (.Name (Str.ofString "_law_land") _) _); with_reducible refine we_nm (by with_unfolding_all exact nm_law__law_land) (by with_unfolding_all exact rfl) ?_)
  | ((with_reducible show WE _ _ _ (.Name (Str.ofString "_law_idle") _) _); with_reducible refine we_nm (by with_unfolding_all exact nm_law__law_idle) (by with_unfolding_all exact rfl) ?_)
  | ((with_reducible show WE _ _ _ (.Name (Str.ofString "_law_turn") _) _); with_reducible refine we_nm (by with_unfolding_all exact nm_law__law_turn) (by with_unfolding_all exact rfl) ?_)
  | ((with_reducible show WE _ _ _ (.Name (Str.ofString "_law_moment_here") _) _); with_reducible refine we_nm (by with_unfolding_all exact nm_law__law_moment_here) (by with_unfolding_all exact rfl) ?_)
  | ((with_reducible show WE _ _ _ (.Name (Str.ofString "_law_one") _) _); with_reducible refine we_nm (by with_unfolding_all exact nm_law__law_one) (by with_unfolding_all exact rfl) ?_)
  | ((with_reducible show WE _ _ _ (.Name (Str.ofString "_law_two") _) _); with_reducible refine we_nm (by with_unfolding_all exact nm_law__law_two) (by with_unfolding_all exact rfl) ?_)
  | ((with_reducible show WE _ _ _ (.Name (Str.ofString "_law_k") _) _); with_reducible refine we_nm (by with_unfolding_all exact nm_law__law_k) (by with_unfolding_all exact rfl) ?_)
  | ((with_reducible show WE _ _ _ (.Name (Str.ofString "_law_bell") _) _); with_reducible refine we_nm (by with_unfolding_all exact nm_law__law_bell) (by with_unfolding_all exact rfl) ?_)
  | ((with_reducible show WE _ _ _ (.Name (Str.ofString "_law_always") _) _); with_reducible refine we_nm (by with_unfolding_all exact nm_law__law_always) (by with_unfolding_all exact rfl) ?_)
  | ((with_reducible show WE _ _ _ (.Name (Str.ofString "_law_small") _) _); with_reducible refine we_nm (by with_unfolding_all exact nm_law__law_small) (by with_unfolding_all exact rfl) ?_)
  | ((with_reducible show WE _ _ _ (.Name (Str.ofString "_law_day") _) _); with_reducible refine we_nm (by with_unfolding_all exact nm_law__law_day) (by with_unfolding_all exact rfl) ?_)
  | ((with_reducible show WE _ _ _ (.Name (Str.ofString "_law_least") _) _); with_reducible refine we_nm (by with_unfolding_all exact nm_law__law_least) (by with_unfolding_all exact rfl) ?_))
local macro_rules | `(tactic| walk_at "set") => `(tactic| first
  | ((with_reducible show WS _ _ _ _ (.Assign [.Name (Str.ofString "_law_d") _] _ _) _); with_reducible refine ws_st (by with_unfolding_all exact st_law__law_d) (by with_unfolding_all assumption) (by with_unfolding_all exact rfl) (by with_unfolding_all exact rfl) ?_)
  | ((with_reducible show WS _ _ _ _ (.Assign [.Name (Str.ofString "_law_rules_here") _] _ _) _); with_reducible refine ws_st (by with_unfolding_all exact st_law__law_rules_here) (by with_unfolding_all assumption) (by with_unfolding_all exact rfl) (by with_unfolding_all exact rfl) ?_)
  | ((with_reducible show WS _ _ _ _ (.Assign [.Name (Str.ofString "_law_other") _] _ _) _); with_reducible refine ws_st (by with_unfolding_all exact st_law__law_other) (by with_unfolding_all assumption) (by with_unfolding_all exact rfl) (by with_unfolding_all exact rfl) ?_)
  | ((with_reducible show WS _ _ _ _ (.Assign [.Name (Str.ofString "_law_here") _] _ _) _); with_reducible refine ws_st (by with_unfolding_all exact st_law__law_here) (by with_unfolding_all assumption) (by with_unfolding_all exact rfl) (by with_unfolding_all exact rfl) ?_)
  | ((with_reducible show WS _ _ _ _ (.Assign [.Name (Str.ofString "_law_there") _] _ _) _); with_reducible refine ws_st (by with_unfolding_all exact st_law__law_there) (by with_unfolding_all assumption) (by with_unfolding_all exact rfl) (by with_unfolding_all exact rfl) ?_)
  | ((with_reducible show WS _ _ _ _ (.Assign [.Name (Str.ofString "_law_are_same") _] _ _) _); with_reducible refine ws_st (by with_unfolding_all exact st_law__law_are_same) (by with_unfolding_all assumption) (by with_unfolding_all exact rfl) (by with_unfolding_all exact rfl) ?_)
  | ((with_reducible show WS _ _ _ _ (.Assign [.Name (Str.ofString "_law_never") _] _ _) _); with_reducible refine ws_st (by with_unfolding_all exact st_law__law_never) (by with_unfolding_all assumption) (by with_unfolding_all exact rfl) (by with_unfolding_all exact rfl) ?_)
  | ((with_reducible show WS _ _ _ _ (.Assign [.Name (Str.ofString "_law_land") _] _ _) _); with_reducible refine ws_st (by with_unfolding_all exact st_law__law_land) (by with_unfolding_all assumption) (by with_unfolding_all exact rfl) (by with_unfolding_all exact rfl) ?_)
  | ((with_reducible show WS _ _ _ _ (.Assign [.Name (Str.ofString "_law_idle") _] _ _) _); with_reducible refine ws_st (by with_unfolding_all exact st_law__law_idle) (by with_unfolding_all assumption) (by with_unfolding_all exact rfl) (by with_unfolding_all exact rfl) ?_)
  | ((with_reducible show WS _ _ _ _ (.Assign [.Name (Str.ofString "_law_turn") _] _ _) _); with_reducible refine ws_st (by with_unfolding_all exact st_law__law_turn) (by with_unfolding_all assumption) (by with_unfolding_all exact rfl) (by with_unfolding_all exact rfl) ?_)
  | ((with_reducible show WS _ _ _ _ (.Assign [.Name (Str.ofString "_law_moment_here") _] _ _) _); with_reducible refine ws_st (by with_unfolding_all exact st_law__law_moment_here) (by with_unfolding_all assumption) (by with_unfolding_all exact rfl) (by with_unfolding_all exact rfl) ?_)
  | ((with_reducible show WS _ _ _ _ (.Assign [.Name (Str.ofString "_law_one") _] _ _) _); with_reducible refine ws_st (by with_unfolding_all exact st_law__law_one) (by with_unfolding_all assumption) (by with_unfolding_all exact rfl) (by with_unfolding_all exact rfl) ?_)
  | ((with_reducible show WS _ _ _ _ (.Assign [.Name (Str.ofString "_law_two") _] _ _) _); with_reducible refine ws_st (by with_unfolding_all exact st_law__law_two) (by with_unfolding_all assumption) (by with_unfolding_all exact rfl) (by with_unfolding_all exact rfl) ?_)
  | ((with_reducible show WS _ _ _ _ (.Assign [.Name (Str.ofString "_law_k") _] _ _) _); with_reducible refine ws_st (by with_unfolding_all exact st_law__law_k) (by with_unfolding_all assumption) (by with_unfolding_all exact rfl) (by with_unfolding_all exact rfl) ?_)
  | ((with_reducible show WS _ _ _ _ (.Assign [.Name (Str.ofString "_law_bell") _] _ _) _); with_reducible refine ws_st (by with_unfolding_all exact st_law__law_bell) (by with_unfolding_all assumption) (by with_unfolding_all exact rfl) (by with_unfolding_all exact rfl) ?_)
  | ((with_reducible show WS _ _ _ _ (.Assign [.Name (Str.ofString "_law_always") _] _ _) _); with_reducible refine ws_st (by with_unfolding_all exact st_law__law_always) (by with_unfolding_all assumption) (by with_unfolding_all exact rfl) (by with_unfolding_all exact rfl) ?_)
  | ((with_reducible show WS _ _ _ _ (.Assign [.Name (Str.ofString "_law_small") _] _ _) _); with_reducible refine ws_st (by with_unfolding_all exact st_law__law_small) (by with_unfolding_all assumption) (by with_unfolding_all exact rfl) (by with_unfolding_all exact rfl) ?_)
  | ((with_reducible show WS _ _ _ _ (.Assign [.Name (Str.ofString "_law_day") _] _ _) _); with_reducible refine ws_st (by with_unfolding_all exact st_law__law_day) (by with_unfolding_all assumption) (by with_unfolding_all exact rfl) (by with_unfolding_all exact rfl) ?_)
  | ((with_reducible show WS _ _ _ _ (.Assign [.Name (Str.ofString "_law_least") _] _ _) _); with_reducible refine ws_st (by with_unfolding_all exact st_law__law_least) (by with_unfolding_all assumption) (by with_unfolding_all exact rfl) (by with_unfolding_all exact rfl) ?_))
local macro_rules | `(tactic| walk_at "aug") => `(tactic| first
  | ((with_reducible show WS _ _ _ _ (.AugAssign (.Name (Str.ofString "_law_d") _) _ _ _) _); with_reducible refine ws_ag (by with_unfolding_all exact st_law__law_d) (by with_unfolding_all assumption) (by with_unfolding_all exact rfl) (by with_unfolding_all exact rfl) ?_)
  | ((with_reducible show WS _ _ _ _ (.AugAssign (.Name (Str.ofString "_law_rules_here") _) _ _ _) _); with_reducible refine ws_ag (by with_unfolding_all exact st_law__law_rules_here) (by with_unfolding_all assumption) (by with_unfolding_all exact rfl) (by with_unfolding_all exact rfl) ?_)
  | ((with_reducible show WS _ _ _ _ (.AugAssign (.Name (Str.ofString "_law_other") _) _ _ _) _); with_reducible refine ws_ag (by with_unfolding_all exact st_law__law_other) (by with_unfolding_all assumption) (by with_unfolding_all exact rfl) (by with_unfolding_all exact rfl) ?_)
  | ((with_reducible show WS _ _ _ _ (.AugAssign (.Name (Str.ofString "_law_here") _) _ _ _) _); with_reducible refine ws_ag (by with_unfolding_all exact st_law__law_here) (by with_unfolding_all assumption) (by with_unfolding_all exact rfl) (by with_unfolding_all exact rfl) ?_)
  | ((with_reducible show WS _ _ _ _ (.AugAssign (.Name (Str.ofString "_law_there") _) _ _ _) _); with_reducible refine ws_ag (by with_unfolding_all exact st_law__law_there) (by with_unfolding_all assumption) (by with_unfolding_all exact rfl) (by with_unfolding_all exact rfl) ?_)
  | ((with_reducible show WS _ _ _ _ (.AugAssign (.Name (Str.ofString "_law_are_same") _) _ _ _) _); with_reducible refine ws_ag (by with_unfolding_all exact st_law__law_are_same) (by with_unfolding_all assumption) (by with_unfolding_all exact rfl) (by with_unfolding_all exact rfl) ?_)
  | ((with_reducible show WS _ _ _ _ (.AugAssign (.Name (Str.ofString "_law_never") _) _ _ _) _); with_reducible refine ws_ag (by with_unfolding_all exact st_law__law_never) (by with_unfolding_all assumption) (by with_unfolding_all exact rfl) (by with_unfolding_all exact rfl) ?_)
  | ((with_reducible show WS _ _ _ _ (.AugAssign (.Name (Str.ofString "_law_land") _) _ _ _) _); with_reducible refine ws_ag (by with_unfolding_all exact st_law__law_land) (by with_unfolding_all assumption) (by with_unfolding_all exact rfl) (by with_unfolding_all exact rfl) ?_)
  | ((with_reducible show WS _ _ _ _ (.AugAssign (.Name (Str.ofString "_law_idle") _) _ _ _) _); with_reducible refine ws_ag (by with_unfolding_all exact st_law__law_idle) (by with_unfolding_all assumption) (by with_unfolding_all exact rfl) (by with_unfolding_all exact rfl) ?_)
  | ((with_reducible show WS _ _ _ _ (.AugAssign (.Name (Str.ofString "_law_turn") _) _ _ _) _); with_reducible refine ws_ag (by with_unfolding_all exact st_law__law_turn) (by with_unfolding_all assumption) (by with_unfolding_all exact rfl) (by with_unfolding_all exact rfl) ?_)
  | ((with_reducible show WS _ _ _ _ (.AugAssign (.Name (Str.ofString "_law_moment_here") _) _ _ _) _); with_reducible refine ws_ag (by with_unfolding_all exact st_law__law_moment_here) (by with_unfolding_all assumption) (by with_unfolding_all exact rfl) (by with_unfolding_all exact rfl) ?_)
  | ((with_reducible show WS _ _ _ _ (.AugAssign (.Name (Str.ofString "_law_one") _) _ _ _) _); with_reducible refine ws_ag (by with_unfolding_all exact st_law__law_one) (by with_unfolding_all assumption) (by with_unfolding_all exact rfl) (by with_unfolding_all exact rfl) ?_)
  | ((with_reducible show WS _ _ _ _ (.AugAssign (.Name (Str.ofString "_law_two") _) _ _ _) _); with_reducible refine ws_ag (by with_unfolding_all exact st_law__law_two) (by with_unfolding_all assumption) (by with_unfolding_all exact rfl) (by with_unfolding_all exact rfl) ?_)
  | ((with_reducible show WS _ _ _ _ (.AugAssign (.Name (Str.ofString "_law_k") _) _ _ _) _); with_reducible refine ws_ag (by with_unfolding_all exact st_law__law_k) (by with_unfolding_all assumption) (by with_unfolding_all exact rfl) (by with_unfolding_all exact rfl) ?_)
  | ((with_reducible show WS _ _ _ _ (.AugAssign (.Name (Str.ofString "_law_bell") _) _ _ _) _); with_reducible refine ws_ag (by with_unfolding_all exact st_law__law_bell) (by with_unfolding_all assumption) (by with_unfolding_all exact rfl) (by with_unfolding_all exact rfl) ?_)
  | ((with_reducible show WS _ _ _ _ (.AugAssign (.Name (Str.ofString "_law_always") _) _ _ _) _); with_reducible refine ws_ag (by with_unfolding_all exact st_law__law_always) (by with_unfolding_all assumption) (by with_unfolding_all exact rfl) (by with_unfolding_all exact rfl) ?_)
  | ((with_reducible show WS _ _ _ _ (.AugAssign (.Name (Str.ofString "_law_small") _) _ _ _) _); with_reducible refine ws_ag (by with_unfolding_all exact st_law__law_small) (by with_unfolding_all assumption) (by with_unfolding_all exact rfl) (by with_unfolding_all exact rfl) ?_)
  | ((with_reducible show WS _ _ _ _ (.AugAssign (.Name (Str.ofString "_law_day") _) _ _ _) _); with_reducible refine ws_ag (by with_unfolding_all exact st_law__law_day) (by with_unfolding_all assumption) (by with_unfolding_all exact rfl) (by with_unfolding_all exact rfl) ?_)
  | ((with_reducible show WS _ _ _ _ (.AugAssign (.Name (Str.ofString "_law_least") _) _ _ _) _); with_reducible refine ws_ag (by with_unfolding_all exact st_law__law_least) (by with_unfolding_all assumption) (by with_unfolding_all exact rfl) (by with_unfolding_all exact rfl) ?_))
local macro_rules | `(tactic| walk_at "lc") => `(tactic| first
  | ((with_reducible show WE _ _ _ (.ListComp _ [⟨.Name (Str.ofString "_law_moment_here") _, _, _, _⟩] _ _) _); with_reducible refine we_lc (own := [(("_law_moment_here" : Str), 11)]) (Tgt.nm 11) (by with_unfolding_all exact rfl) (by with_unfolding_all assumption) (by with_unfolding_all exact blkOk_by rfl) (by with_unfolding_all decide) (fun b => (by with_unfolding_all exact (pg_name (by with_unfolding_all assumption) (by with_unfolding_all exact rfl) (by with_unfolding_all first | exact Or.inl rfl | exact Or.inr rfl) (by with_unfolding_all first | exact .inl rfl | exact .inr rfl)))) ?_ (by with_unfolding_all (intro _; exact rfl))))
local macro_rules | `(tactic| walk_at "for") => `(tactic| first
  | ((with_reducible show WS _ _ _ _ (.For (.Name (Str.ofString "_law_turn") _) _ _ _ _) _); with_reducible refine ws_forF (Tgt.nm 10) (by with_unfolding_all exact rfl) (by with_unfolding_all exact (pg_name (by with_unfolding_all assumption) (by with_unfolding_all exact rfl) (by with_unfolding_all first | exact Or.inl rfl | exact Or.inr rfl) (by with_unfolding_all first | exact .inl rfl | exact .inr rfl))) (by with_unfolding_all (intro _; exact rfl)) ?_)
  | ((with_reducible show WS _ _ _ _ (.For (.Name (Str.ofString "_law_k") _) _ _ _ _) _); with_reducible refine ws_forF (Tgt.nm 14) (by with_unfolding_all exact rfl) (by with_unfolding_all exact (pg_name (by with_unfolding_all assumption) (by with_unfolding_all exact rfl) (by with_unfolding_all first | exact Or.inl rfl | exact Or.inr rfl) (by with_unfolding_all first | exact .inl rfl | exact .inr rfl))) (by with_unfolding_all (intro _; exact rfl)) ?_))
local macro_rules | `(tactic| walk_at "lset") => `(tactic| first
  | ((with_reducible show WS _ _ _ _ (.Assign [.Name (Str.ofString "_law_day") _] (.ListComp _ [⟨.Name (Str.ofString "_law_moment_here") _, _, _, _⟩] _ _) _) _); with_reducible refine ws_setLc (own := [(("_law_moment_here" : Str), 11)]) (Tgt.nm 11) (by with_unfolding_all exact rfl) (by with_unfolding_all assumption) (by with_unfolding_all exact rfl) (by with_unfolding_all exact blkOk_by rfl) (by with_unfolding_all decide) (fun b => (by with_unfolding_all exact (pg_name (by with_unfolding_all assumption) (by with_unfolding_all exact rfl) (by with_unfolding_all first | exact Or.inl rfl | exact Or.inr rfl) (by with_unfolding_all first | exact .inl rfl | exact .inr rfl)))) ?_ (by with_unfolding_all exact rfl) (by with_unfolding_all exact rfl) (by with_unfolding_all (intro _; exact rfl))))
local macro_rules | `(tactic| walk_at "par") => `(tactic| first
  | ((with_reducible show WS _ _ _ _ (.Assign [.Tuple [.Name (Str.ofString "_law_here") _, .Name (Str.ofString "_law_there") _] _ _] _ _) _); with_reducible refine ws_parF (by with_unfolding_all exact st_law__law_here) (by with_unfolding_all exact st_law__law_there) (by decide) (by with_unfolding_all exact rfl) (by with_unfolding_all assumption) (by with_unfolding_all exact rfl) (by with_unfolding_all exact rfl) (by with_unfolding_all exact rfl) (by with_unfolding_all exact rfl) (by with_unfolding_all exact rfl) (by with_unfolding_all exact rfl) ?_)
  | ((with_reducible show WS _ _ _ _ (.Assign [.Tuple [.Name (Str.ofString "_law_here") _, .Name (Str.ofString "_law_there") _] _ _] _ _) _); with_reducible refine ws_unp [4, 5] (by with_unfolding_all exact (pg_tup (by with_unfolding_all exact rfl) (pgs_cons (pg_name (by with_unfolding_all assumption) (by with_unfolding_all exact rfl) (by with_unfolding_all first | exact Or.inl rfl | exact Or.inr rfl) (by with_unfolding_all first | exact .inl rfl | exact .inr rfl)) (pgs_cons (pg_name (by with_unfolding_all assumption) (by with_unfolding_all exact rfl) (by with_unfolding_all first | exact Or.inl rfl | exact Or.inr rfl) (by with_unfolding_all first | exact .inl rfl | exact .inr rfl)) (pgs_nil) (by with_unfolding_all exact rfl)) (by with_unfolding_all exact rfl)) (by with_unfolding_all exact rfl) (by with_unfolding_all exact rfl))) (by with_unfolding_all exact rfl) (by with_unfolding_all exact rfl) (by with_unfolding_all exact rfl) ?_)
  | ((with_reducible show WS _ _ _ _ (.Assign [.Tuple [.Name (Str.ofString "_law_one") _, .Name (Str.ofString "_law_two") _] _ _] _ _) _); with_reducible refine ws_parF (by with_unfolding_all exact st_law__law_one) (by with_unfolding_all exact st_law__law_two) (by decide) (by with_unfolding_all exact rfl) (by with_unfolding_all assumption) (by with_unfolding_all exact rfl) (by with_unfolding_all exact rfl) (by with_unfolding_all exact rfl) (by with_unfolding_all exact rfl) (by with_unfolding_all exact rfl) (by with_unfolding_all exact rfl) ?_)
  | ((with_reducible show WS _ _ _ _ (.Assign [.Tuple [.Name (Str.ofString "_law_one") _, .Name (Str.ofString "_law_two") _] _ _] _ _) _); with_reducible refine ws_unp [12, 13] (by with_unfolding_all exact (pg_tup (by with_unfolding_all exact rfl) (pgs_cons (pg_name (by with_unfolding_all assumption) (by with_unfolding_all exact rfl) (by with_unfolding_all first | exact Or.inl rfl | exact Or.inr rfl) (by with_unfolding_all first | exact .inl rfl | exact .inr rfl)) (pgs_cons (pg_name (by with_unfolding_all assumption) (by with_unfolding_all exact rfl) (by with_unfolding_all first | exact Or.inl rfl | exact Or.inr rfl) (by with_unfolding_all first | exact .inl rfl | exact .inr rfl)) (pgs_nil) (by with_unfolding_all exact rfl)) (by with_unfolding_all exact rfl)) (by with_unfolding_all exact rfl) (by with_unfolding_all exact rfl))) (by with_unfolding_all exact rfl) (by with_unfolding_all exact rfl) (by with_unfolding_all exact rfl) ?_))
/-- law -/
abbrev F_law (K : PySem.W.Frag) : FSp := fun ws c Q E => ∃ (l : List Int), c = [] ∧ l.length ≤ 63 ∧ ws = [.im (.scr l)] ∧ Q (.im (.bl true)) []
theorem law_at (T : Tx K mg) : ∃ f fd, mg "law" = some (.ref f) ∧ (∀ (s : Shared) (u : Value), BindsTo s fd ⟨[u], []⟩ [("_law_script", u)]) ∧ ∀ (P : Program) (w : World) (base : Heap), FnOk P w K mg base (L2.CX P w) 20 f fd ["_law_script"] (spOf K (F_law K)) := by
  obtain ⟨fd, FD⟩ := T.def_ (d := dd_law) 37 rfl
  have hm : mg "law" = some (.ref (He.fAd K ("law", none))) := by
    obtain ⟨_, h, X, G, cc⟩ := T.ex
    exact He.glo_ok X G (T.fact 35 rfl)
  have FD : FunD K "law" "law" (defArgs s_law) (defBody s_law) (defScope s_law) [] [] (He.fAd K ("law", none)) fd := FD
  have Fu := funD_fun FD
  have bb := FunD.bindsA (ps := ["_law_script"]) FD fun _ _ _ _ _ _ us hl => match us, hl with | [_], _ => rfl
  refine ⟨_, fd, hm, fun s v => bb s [v] rfl, fun P w base => fn_w Fu sc_law (fun ws c Q E => ?_) (fun cdv A outer s H E ws c Q Qx hr hF => ?_)⟩
  · rintro ⟨l, rfl, hl, rfl, hq⟩; rfl
  obtain ⟨l, rfl, hl, rfl, hq⟩ := hF
  have hnd : N_law.Nodup := sc_law.nd
  change WSs _ _ [_, _, _, _, _, _, _, _, _, _, _, _, _, _, _, _, _, _, _, _] _ _ _
  refine wss_cons ?_
  walk_at "w"
  refine ⟨l, _, rfl, hl, rfl, fun dr hd => ?_⟩
  walk_at "w"
  refine ⟨0, dr, _, rfl, hd, by decide, by decide, rfl, fun dr1 rs hd1 hrs hrl => ?_⟩
  dsimp only [List.set, List.length, List.nil_append]
  walk_at "w"
  refine ⟨0, dr1, rs, rfl, hd1, hrs, by omega, rfl, fun dr2 ms hd2 hms hml => ?_⟩
  dsimp only [List.set, List.length, List.nil_append]
  walk_at "w"
  refine ⟨_, rs, cel_0, hrs, by omega, rfl, rfl, ?_⟩
  rw [set_0]
  refine rtok_obj1 (ns := ["rows"]) (l := [rusD rs]) rfl ?_
  walk_at "w"
  refine ⟨_, ms, cel_0, hms, by omega, rfl, rfl, ?_⟩
  rw [set_0]
  refine rtok_obj1 (ns := ["rows"]) (l := [rusD ms]) rfl ?_
  walk_at "w"
  refine ⟨rs, ms, rfl, hrs, hms, by omega, by omega, rfl, ?_⟩
  rw [show (unlL (landsL 10) rs ms).isNone = sameB 10 rs ms from rfl]
  walk_at "w"
  refine ⟨rs, ms, rfl, hrs, hms, by omega, by omega, rfl, ?_⟩
  walk_at "w"
  rw [tog_isN]
  walk_at "w"
  refine ⟨0, dr2, _, rfl, hd2, Nat.le_of_ble_eq_true rfl, Nat.le_of_ble_eq_true rfl, rfl, fun dr3 x hd3 hx => ?_⟩
  obtain ⟨a, rfl, ha, ha2⟩ : ∃ a : Int, x = .int a ∧ 2 ≤ a ∧ a ≤ G30 := by
    simp only [List.mem_cons, List.not_mem_nil, or_false] at hx
    rcases hx with rfl | rfl | rfl | rfl <;> exact ⟨_, rfl, by decide, by decide⟩
  clear hx
  dsimp only [List.set, List.length, List.nil_append]
  walk_at "w"
  refine ⟨0, dr3, _, rfl, hd3, Nat.le_of_ble_eq_true rfl, Nat.le_of_ble_eq_true rfl, rfl, fun dr4 x hd4 hx => ?_⟩
  obtain ⟨b, rfl, hb, hb2⟩ : ∃ b : Int, x = .int b ∧ 2 ≤ b ∧ b ≤ G30 := by
    simp only [List.mem_cons, List.not_mem_nil, or_false] at hx
    rcases hx with rfl | rfl | rfl | rfl <;> exact ⟨_, rfl, by decide, by decide⟩
  clear hx
  dsimp only [List.set, List.length, List.nil_append]
  walk_at "p"
  refine ⟨_, rfl, Nat.le_of_ble_eq_true rfl, ?_⟩
  have hpl : Pl 50 (.tup [.int a, .int b]) := ⟨by simp, by simp [Pl]⟩
  have hL : isLandD (.tup [.int a, .int b]) G30 = true := by simp only [isLandD, isFromD, Bool.and_eq_true, decide_eq_true_eq]; omega
  obtain ⟨A, hA⟩ : ∃ A, A = sameB 10 rs ms := ⟨_, rfl⟩
  obtain ⟨N, hN⟩ : ∃ N, N = (togL (landsL 10) rs ms true).isNone := ⟨_, rfl⟩
  rw [← hA, ← hN]
  refine wss_cut (fun ρ' c' => c' = [.lst dr4.l] ∧ ρ' = [some (.im (.scr l)), some (.ce 0), some (.im (rusD rs)), some (.im (rusD ms)), some (.im (clockD K rs)), some (.im (clockD K ms)), some (.im (.bl A)), some (.im (.bl N)), some (.im (.tup [.int a, .int b])), none, none, none, none, none, none, none, none, none, none, none]) ?_ (fun ρ' c' hP => ?_)
  · cases A with
    | false =>
      walk_at "w"
      exact ⟨rfl, rfl⟩
    | true =>
      walk_at "w"
      refine ⟨rs, _, rfl, hrs, by omega, hpl, rfl, fun zz => absurd (hL.symm.trans zz) (by decide), fun x y e _ => ?_⟩
      cases e
      walk_at "w"
      refine ⟨ms, _, rfl, hms, by omega, hpl, rfl, fun zz => absurd (hL.symm.trans zz) (by decide), fun x y e _ => ?_⟩
      cases e
      have hs := same_str hrs hms hA.symm ha hb
      walk_at "w"
      exact ⟨rfl, rfl⟩
  obtain ⟨rfl, rfl⟩ := hP
  walk_at "w"
  refine ⟨rs, rfl, hrs, by omega, rfl, ?_⟩
  walk_at "w"
  refine forask (fun i ρ' c' => ∃ (dr' : Dr) (x10 x11 x12 x13 x14 : Option W), dr'.ok ∧ c' = [.lst dr'.l] ∧ ρ' = [some (.im (.scr l)), some (.ce 0), some (.im (rusD rs)), some (.im (rusD ms)), some (.im (clockD K rs)), some (.im (clockD K ms)), some (.im (.bl A)), some (.im (.bl N)), some (.im (.tup [.int a, .int b])), some (.im (.lst (natsD (needL rs)))), x10, x11, x12, x13, x14, none, none, none, none, none]) ⟨dr4, none, none, none, none, none, hd4, rfl, rfl⟩ (fun i d ρ' c' hd hP => ?_) (fun ρ' c' hP => ?_)
  · obtain ⟨dr', x10, x11, x12, x13, x14, hd', rfl, rfl⟩ := hP
    refine ⟨trivial, ?_⟩
    change WSs _ _ [_, _, _, _, _, _, _, _, _, _, _, _, _, _, _, _, _, _, _, _] _ _ _
    walk_at "w"
    refine ⟨0, dr', a, b, rfl, hd', ha, ha2, hb, hb2, rfl, fun dr5 h p hd5 h0 h1 p0 p1 => ?_⟩
    dsimp only [List.set, List.length, List.nil_append]
    obtain ⟨mm, emm⟩ : ∃ mm, mm = h * b + p := ⟨_, rfl⟩
    rw [← emm]
    have hM : isFromD (.int mm) (-F64) F64 = true := by
      unfold G30 at ha2 hb2
      have a1 : 0 ≤ h * b := Int.mul_nonneg h0 (by omega)
      have a2 : h * b ≤ 1000000000000000000000000000000 * 1000000000000000000000000000000 := Int.mul_le_mul (by omega) hb2 (by omega) (by omega)
      have e1 : (1000000000000000000000000000000 : Int) * 1000000000000000000000000000000 = 10 ^ 60 := by decide
      rw [e1] at a2
      simp only [isFromD, Bool.and_eq_true, decide_eq_true_eq]; unfold F64; omega
    clear emm h0 h1 p0 p1
    walk_at "w"
    refine ⟨rs, _, _, _, rfl, by omega, hpl, rfl, rfl, fun zz => absurd (hL.symm.trans zz) (by decide), fun _ zz => absurd (hM.symm.trans zz) (by decide), fun x y m e1 e2 _ _ => ?_⟩
    cases e1; cases e2
    walk_at "w"
    refine ⟨ms, _, _, _, rfl, by omega, hpl, rfl, rfl, fun zz => absurd (hL.symm.trans zz) (by decide), fun _ zz => absurd (hM.symm.trans zz) (by decide), fun x y m e1 e2 _ _ => ?_⟩
    cases e1; cases e2
    obtain ⟨S1, e1⟩ : ∃ S, S = soundsD rs a b (mm / b % a) (mm % b) := ⟨_, rfl⟩
    obtain ⟨S2, e2⟩ : ∃ S, S = soundsD ms a b (mm / b % a) (mm % b) := ⟨_, rfl⟩
    rw [← e1, ← e2]
    have pl1 : Pl 3 S1 := e1 ▸ pl_sounds rs a b (mm / b % a) (mm % b)
    have pl2 : Pl 3 S2 := e2 ▸ pl_sounds ms a b (mm / b % a) (mm % b)
    have h12 : A = true → deq S1 S2 = true := fun z => by
      rw [e1, e2, deq_sounds]
      exact decide_eq_true (same_mom hrs hms (hA.symm.trans z) ha hb mm)
    have hnn : N = true → deq S1 (.tup []) = true ∨ deq S2 (.tup []) = true := fun z => by
      have := never_meet hrs hms (Option.isNone_iff_eq_none.mp (hN.symm.trans z)) ha hb mm
      rw [e1, e2, deq_snil, deq_snil, decide_eq_true_eq, decide_eq_true_eq]; exact this
    refine wss_cut (fun ρ' c' => c' = [.lst dr5.l] ∧ ρ' = [some (.im (.scr l)), some (.ce 0), some (.im (rusD rs)), some (.im (rusD ms)), some (.im (clockD K rs)), some (.im (clockD K ms)), some (.im (.bl A)), some (.im (.bl N)), some (.im (.tup [.int a, .int b])), some (.im (.lst (natsD (needL rs)))), some (.im d), some (.im (.int mm)), some (.im S1), some (.im S2), x14, none, none, none, none, none]) ?_ (fun ρ' c' hP => ?_)
    · cases A with
      | true =>
        have q := h12 rfl
        walk_at "w"
        rw [q]
        cases N with
        | true =>
          walk_at "w"
          rcases hnn rfl with z | z
          · rw [z]
            walk_at "w"
            exact ⟨rfl, rfl⟩
          · cases y : deq S1 (.tup []) with
            | true =>
              walk_at "w"
              exact ⟨rfl, rfl⟩
            | false =>
              walk_at "w"
              rw [z]
              walk_at "w"
              exact ⟨rfl, rfl⟩
        | false =>
          walk_at "w"
          exact ⟨rfl, rfl⟩
      | false =>
        cases N with
        | true =>
          walk_at "w"
          rcases hnn rfl with z | z
          · rw [z]
            walk_at "w"
            exact ⟨rfl, rfl⟩
          · cases y : deq S1 (.tup []) with
            | true =>
              walk_at "w"
              exact ⟨rfl, rfl⟩
            | false =>
              walk_at "w"
              rw [z]
              walk_at "w"
              exact ⟨rfl, rfl⟩
        | false =>
          walk_at "w"
          exact ⟨rfl, rfl⟩
    obtain ⟨rfl, rfl⟩ := hP
    walk_at "w"
    refine wi_seq ?_
    walk_at "w"
    refine ⟨_, .inl rfl, ?_⟩
    refine forask (fun j ρ' c' => ∃ y14, c' = [.lst dr5.l] ∧ ρ' = [some (.im (.scr l)), some (.ce 0), some (.im (rusD rs)), some (.im (rusD ms)), some (.im (clockD K rs)), some (.im (clockD K ms)), some (.im (.bl A)), some (.im (.bl N)), some (.im (.tup [.int a, .int b])), some (.im (.lst (natsD (needL rs)))), some (.im d), some (.im (.int mm)), some (.im S1), some (.im S2), y14, none, none, none, none, none]) ⟨x14, rfl, rfl⟩ (fun j e ρ' c' he hP => ?_) (fun ρ' c' hP => ?_)
    · obtain ⟨y14, rfl, rfl⟩ := hP
      refine ⟨trivial, ?_⟩
      change WSs _ _ [_, _, _, _, _, _, _, _, _, _, _, _, _, _, _, _, _, _, _, _] _ _ _
      obtain ⟨k, hk, rfl⟩ := nats_mem he
      have hcut := rus_cut (l := rs) (k := k)
      unfold rusD
      walk_at "w"
      refine wo_catT (by rw [hcut.1, hcut.2, List.length_map, List.length_map, List.length_take, List.length_drop]; omega) ?_
      rw [hcut.1, hcut.2, ← List.map_append]
      walk_at "w"
      refine ⟨_, dropAt rs k, cel_0, drop_ok hrs k, by have := drop_len rs k; omega, rfl, rfl, ?_⟩
      rw [set_0]
      refine rtok_obj1 (ns := ["rows"]) (l := [rusD (dropAt rs k)]) rfl ?_
      walk_at "w"
      refine ⟨dropAt rs k, _, _, _, rfl, by have := drop_len rs k; omega, hpl, rfl, rfl, fun zz => absurd (hL.symm.trans zz) (by decide), fun _ zz => absurd (hM.symm.trans zz) (by decide), fun x y m f1 f2 _ _ => ?_⟩
      cases f1; cases f2
      have pl3 := pl_sounds (dropAt rs k) a b (mm / b % a) (mm % b)
      have h3 : deq (soundsD (dropAt rs k) a b (mm / b % a) (mm % b)) S1 = true := by
        rw [e1, deq_sounds]
        exact decide_eq_true (same_mom hrs (drop_ok hrs k) (List.mem_filter.mp hk).2 ha hb mm).symm
      walk_at "w"
      rw [h3]
      walk_at "w"
      exact ⟨_, rfl, rfl⟩
    · obtain ⟨y14, rfl, rfl⟩ := hP
      dsimp only
      walk_at "w"
      exact ⟨dr5, _, _, _, _, _, hd5, rfl, rfl⟩
  · obtain ⟨dr', x10, x11, x12, x13, x14, hd', rfl, rfl⟩ := hP
    dsimp only
    have plr := pl_rus (l := rs) (by omega)
    refine wss_cut (fun ρ' c' => ∃ x15 x16 : Option W, c' = [.lst dr'.l] ∧ ρ' = [some (.im (.scr l)), some (.ce 0), some (.im (rusD rs)), some (.im (rusD ms)), some (.im (clockD K rs)), some (.im (clockD K ms)), some (.im (.bl A)), some (.im (.bl N)), some (.im (.tup [.int a, .int b])), some (.im (.lst (natsD (needL rs)))), x10, x11, x12, x13, x14, x15, x16, none, none, none]) ?_ (fun ρ' c' hP => ?_)
    · by_cases h0 : rs = []
      · subst h0
        walk_at "w"
        exact ⟨none, none, rfl, rfl⟩
      · walk_at "w"
        refine iteP (by rw [rus_ne h0]; rfl) ?_
        obtain ⟨r, rt, rfl⟩ := List.exists_cons_of_ne_nil h0
        have er : rusD (r :: rt) = .tup (.tup [r.h.d "hour", r.p.d "part", .str (bellS r.low), r.o.d] :: rt.map Ru.d) := rfl
        have hc1 : cutD (D.tup [r.h.d "hour", r.p.d "part", .str (bellS r.low), r.o.d] :: rt.map Ru.d) none (some 1) = [r.d] := (rus_cut (l := r :: rt) (k := 1)).1
        have hr0 : r.ok := hrs r (List.mem_cons_self ..)
        have hin1 : inD (.int 1) (natsD (needL [alwR r.low, r])) = true := in_nats (k := 1) (alw_idle r)
        have hin0 : inD (.int 0) (natsD (swapsL [r, r])) = true := in_nats (k := 0) (swap_self r)
        rw [er]
        walk_at "w"
        rw [hc1]
        refine ⟨_, [alwR r.low, r], cel_0, fun q hq => ?_, Nat.le_of_ble_eq_true rfl, rfl, rfl, ?_⟩
        · simp only [List.mem_cons, List.not_mem_nil, or_false] at hq
          rcases hq with rfl | rfl
          · exact alw_ok _
          · exact hr0
        rw [set_0]
        refine rtok_obj1 (ns := ["rows"]) (l := [rusD [alwR r.low, r]]) rfl ?_
        walk_at "w"
        refine ⟨[alwR r.low, r], rfl, fun q hq => ?_, Nat.le_of_ble_eq_true rfl, rfl, ?_⟩
        · simp only [List.mem_cons, List.not_mem_nil, or_false] at hq
          rcases hq with rfl | rfl
          · exact alw_ok _
          · exact hr0
        refine wo_notIn (Or.inl (by constructor)) rfl (flat_nats _) ?_
        rw [hin1]
        walk_at "w"
        rw [hc1]
        refine ⟨_, [r, r], cel_0, fun q hq => ?_, Nat.le_of_ble_eq_true rfl, rfl, rfl, ?_⟩
        · simp only [List.mem_cons, List.not_mem_nil, or_false, or_self] at hq
          subst hq; exact hr0
        rw [set_0]
        refine rtok_obj1 (ns := ["rows"]) (l := [rusD [r, r]]) rfl ?_
        walk_at "w"
        refine ⟨[r, r], rfl, fun q hq => ?_, Nat.le_of_ble_eq_true rfl, rfl, ?_⟩
        · simp only [List.mem_cons, List.not_mem_nil, or_false, or_self] at hq
          subst hq; exact hr0
        refine wo_notIn (Or.inl (by constructor)) rfl (flat_nats _) ?_
        rw [hin0]
        walk_at "w"
        exact ⟨_, _, rfl, rfl⟩
    obtain ⟨x15, x16, rfl, rfl⟩ := hP
    walk_at "w"
    refine ⟨0, dr', 3, rfl, hd', by decide, wid_of (by decide) (by decide), rfl, fun dr7 u hd7 u0 u1 => ?_⟩
    dsimp only [List.set, List.length, List.nil_append]
    walk_at "w"
    refine ⟨0, dr7, 3, rfl, hd7, by decide, wid_of (by decide) (by decide), rfl, fun dr8 v hd8 v0 v1 => ?_⟩
    dsimp only [List.set, List.length, List.nil_append]
    walk_at "p"
    walk_at "p"
    refine ⟨_, rfl, Nat.le_of_ble_eq_true rfl, ?_⟩
    dsimp only
    obtain ⟨x, ex⟩ : ∃ x, x = 2 + u := ⟨_, rfl⟩
    obtain ⟨y, ey⟩ : ∃ y, y = 2 + v := ⟨_, rfl⟩
    rw [← ex, ← ey]
    have hx : 2 ≤ x ∧ x ≤ 4 := by omega
    have hy : 2 ≤ y ∧ y ≤ 4 := by omega
    clear ex ey
    have hxy0 : 4 ≤ x * y := Int.mul_le_mul (a := 2) (b := 2) (by omega) (by omega) (by omega) (by omega)
    have hxy : x * y ≤ 16 := Int.mul_le_mul (c := 4) (d := 4) (by omega) (by omega) (by omega) (by omega)
    have hpl2 : Pl 50 (.tup [.int x, .int y]) := ⟨by simp, by simp [Pl]⟩
    have hL2 : isLandD (.tup [.int x, .int y]) G30 = true := by
      have : (G30 : Int) = 1000000000000000000000000000000 := rfl
      simp only [isLandD, isFromD, Bool.and_eq_true, decide_eq_true_eq]; omega
    have hS2 : isSmallD (.tup [.int x, .int y]) = true := small_of hL2 (by omega)
    walk_at "w"
    refine lc_list (dayL rs x y) (by rw [dayL_len, rangeD_len]) (by rw [rangeD_len]; omega) (fun i d e hd he => ⟨trivial, fun bk => ?_⟩) ?_
    · obtain ⟨hi, rfl⟩ := rangeD_get hd
      rw [dayL_get (by omega)] at he
      have he := Option.some.inj he
      subst he
      have hx2 : (i : Int) < x * y := by omega
      have hh0 : 0 ≤ (i : Int) / y := Int.ediv_nonneg (by omega) (by omega)
      have hh1 : (i : Int) / y < x := Int.ediv_lt_of_lt_mul (by omega) hx2
      have hM2 : isFromD (.int (0 + (i : Int))) (-F64) F64 = true := by
        have : (F64 : Int) = 10000000000000000000000000000000000000000000000000000000000000000 := rfl
        simp only [isFromD, Bool.and_eq_true, decide_eq_true_eq]; omega
      walk_at "w"
      refine ⟨rs, _, _, _, rfl, by omega, hpl2, rfl, rfl, fun zz => absurd (hL2.symm.trans zz) (by decide), fun _ zz => absurd (hM2.symm.trans zz) (by decide), fun x y m f1 f2 _ _ => ?_⟩
      cases f1; cases f2
      refine ⟨?_, rfl⟩
      rw [Int.zero_add, Int.emod_eq_of_lt hh0 hh1]
    rw [dayL_dayS, day_hv]
    have hpos : 0 < (dayS rs x y).length := by rw [dayS_len]; omega
    have hlen : (dayS rs x y).length ≤ 16 := by rw [dayS_len]; omega
    have htwo : ∀ s ∈ dayS rs x y, s.length ≤ 100 := fun s hs => Nat.le_trans (dayS_two s hs) (by decide)
    have hin : inD (.int 0) (natsD (begH (dayS rs x y) ((dayS rs x y ++ dayS rs x y).map HV.snd))) = true := in_nats (k := 0) (beg_twice hpos)
    walk_at "w"
    refine ⟨rs, _, rfl, by omega, hpl2, rfl, fun zz => absurd (hS2.symm.trans zz) (by decide), fun x' y' f _ => ?_⟩
    cases f
    walk_at "w"
    refine wo_catL (by constructor) (by constructor) (by simp only [List.length_map]; omega) ?_
    rw [← List.map_append, ← List.map_append]
    walk_at "w"
    refine ⟨rs, _, true, (dayS rs x y ++ dayS rs x y).map HV.snd, rfl, by omega, by simp only [List.length_map, List.length_append]; omega, fun z hz => ?_, hpl2, rfl, fun zz => absurd (hS2.symm.trans zz) (by decide), fun x' y' f _ => ?_⟩
    · obtain ⟨s, hs, rfl⟩ := List.mem_map.mp hz
      exact htwo s ((List.mem_append.mp hs).elim id id)
    cases f
    refine wo_notIn (Or.inl (by constructor)) rfl (flat_nats _) ?_
    rw [hin]
    walk_at "w"
    rw [lis_isN]
    cases el : lisO (dayS rs x y) with
    | some L =>
      walk_at "w"
      refine ⟨rs, _, true, (dayS rs x y).map HV.snd, rfl, by omega, by simp only [List.length_map]; omega, fun z hz => ?_, hpl2, rfl, fun zz => absurd (hS2.symm.trans zz) (by decide), fun x' y' f _ => ?_⟩
      · obtain ⟨s, hs, rfl⟩ := List.mem_map.mp hz
        exact htwo s hs
      cases f
      rw [beg_some hpos el]
      rw [show natsD [0] = [.int 0] from rfl]
      walk_at "w"
      refine RtOk.im ?_
      rw [show deq (.lst [.int 0]) (.lst [.int 0]) = true by simp [deq, deqs]]
      exact hq
    | none =>
      walk_at "w"
      refine ⟨rs, _, true, (dayS rs x y).map HV.snd, rfl, by omega, by simp only [List.length_map]; omega, fun z hz => ?_, hpl2, rfl, fun zz => absurd (hS2.symm.trans zz) (by decide), fun x' y' f _ => ?_⟩
      · obtain ⟨s, hs, rfl⟩ := List.mem_map.mp hz
        exact htwo s hs
      cases f
      have hbl : (natsD (begH (dayS rs x y) ((dayS rs x y).map HV.snd))).length ≤ 1000000 := by
        unfold natsD begH begHU
        rw [List.length_map]
        exact Nat.le_trans (List.length_filter_le _ _) (by rw [List.length_range]; omega)
      have hb1 := beg_none hpos el
      walk_at "w"
      refine RtOk.im ?_
      rw [show decide ((1 : Int) < ((natsD (begH (dayS rs x y) ((dayS rs x y).map HV.snd))).length : Int)) = true from decide_eq_true (by unfold natsD; rw [List.length_map]; omega)]
      exact hq
end
abbrev lawK : Nat := 20
theorem law_start {K : PySem.W.Frag} {H : Hp} {a : Addr} {ns : List Int} (ho : Only H) (hS : SqL K H a (ns.map V.int)) (hl : ns.length ≤ 63) : spOf K (F_law K) [.ref a] H (fun v _ => v = .bl true) fun _ _ _ => False := by
  refine ⟨⟨H, H, [], []⟩, [.im (.scr ns)], rfl, ⟨Ex.refl _, rfl, List.nodup_nil, (fun b hb => absurd hb List.not_mem_nil), (fun n b k h1 h2 => by simp at h1)⟩, ⟨.ref a, [], rfl, ⟨a, rfl, hS⟩, rfl⟩, fun w _ => w = .im (.bl true), fun _ _ => False, ⟨ns, rfl, hl, rfl, rfl⟩, fun v w κ' _ _ r e => ?_, fun _ _ _ _ _ _ _ z => z.elim⟩
  subst e
  exact r
set_option maxHeartbeats 0
end WL
open PySem PySem.W PySem.Calls PyProof.Rows
theorem PySem.Challenge.cw_hourbells_k12_things_that_hold_holds : PySem.Challenge.rw_hourbells_k12_things_that_hold.Holds := by
  w_on
  refine WL.holds0 fun said0 => ?_
  refine HandSHeadRun.head_any (r := OpenLaw.row PySem.Challenge.rw_hourbells_k12_things_that_hold) (q := view (OpenLaw.row PySem.Challenge.rw_hourbells_k12_things_that_hold).prog [55]) (H := WL.hk0) (ob := WL.ob0) (M := 4000) (loose := WL.loose0) (d := HandSHeadRun.topDef (OpenLaw.row PySem.Challenge.rw_hourbells_k12_things_that_hold).prog 55) (kwd := []) WL.ob0_eq
    (by kernel_rfl) (fun s => by kernel_rfl) WL.run0 (by kernel_rfl) (by kernel_rfl) (by kernel_rfl) (by rfl) (by first | assumption | decide +kernel) (by decide +kernel) WL.bare0 ?hw ?hc
  case hw => w_witness2
  case hc =>
    refine WL.walk_w (l := PySem.Challenge.rw_hourbells_k12_things_that_hold) (n := 63) (k := WL.lawK) (x := "_law_script") rfl (by decide) (by kernel_rfl) ⟨rfl, by decide, by decide⟩ ?F
    intro w mg fa h Y G hmg0
    obtain ⟨K, KX, c⟩ := Y
    have hmg : mg ("law" : PySem.Str) = some (.ref fa) := by
      have e : (HandSHeadRun.topDef (OpenLaw.row PySem.Challenge.rw_hourbells_k12_things_that_hold).prog 55).name = ("law" : PySem.Str) := by kernel_rfl
      rw [← e]
      exact hmg0
    obtain ⟨f, fd, hm, hb, hF⟩ := WL.law_at (K := K) (mg := mg) ⟨⟨w, h, KX, G, c⟩⟩
    have ef : f = fa := Value.ref.inj (Option.some.inj (hm.symm.trans hmg))
    subst ef
    exact ⟨K, fd, WL.spOf K (WL.F_law K), KX, hb, fun H a ns hl ho hS => WL.law_start ho hS hl, fun base _ _ => hF _ w base⟩
