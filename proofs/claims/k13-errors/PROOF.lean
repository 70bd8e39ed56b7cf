import PyProof.Rows.All
import Wide.All
import OpenK.AllK
import Wide.FinOn
import HandS.ForMost
import HandS.Exc
import HandS.ExcOwn
import HandS.TryOnly
import HandS.TryMany
import HandS.CallSlots
import HandS.WordsExc
import HandS.Walk
import HandS.TupAny
import HandS.TupMul
import HandS.Wide
import HandS.IsInst
import HandS.Conv
import HandS.More
import HandS.Text
import HandS.Style
import KE.KStateDown
import HandS.Defaults
import HandS.Head0
import HandS.Head1
import HandS.Head2
import HandS.HeadEnd
import HandS.HeadHook1
import HandS.HeadHook2
import HandS.HeadHook3
import HandS.HeadHook4
import KE.GoesMore
import HandS.Zip
import PyProof.LongRange
import KE.KDictZip
import KE.KSortKeySt
import KE.KTupSum
import HandS.SortKw
import HandS.Star
import HandS.RaiseMore
import HandS.OwnEq
import HandS.SortInts
import HandS.NestedK
import HandS.ExcInit
import HandS.ExcField
import HandS.ExcSuper
import KE.KExcSuper
import HandS.Property
import HandS.DictComp
import KE.KeyNested
import KE.KDictWalk
import HandS.HotCalls
import HandS.SuiteRaise
import KE.KExcIs
import PyProof.ConsumeWalk
import HandS.ExcIs
import PySem.Challenge.RW_hourbells_k13_errors_apart
set_option Elab.async false
set_option linter.all false
set_option maxRecDepth 100000
set_option maxHeartbeats 4000000
/-! The layer of plain data: values as trees, mutable objects as numbered cells. -/
namespace WL
open PySem L2
/-- plain data -/
inductive D where
  | non | bl (b : Bool) | int (i : Int) | str (x : Str)
  | tup (l : List D) | lst (l : List D) | scr (l : List Int)
  | obj (C : Addr) (ns : List Str) (l : List D)
  | dic (ks : List Key) (l : List D)
  | dct (ks : List (List Key)) (l : List D)
  | ty (n : String) | cls (C : Addr)
/-- the heap only grew -/
def Ex (H H' : Hp) : Prop := ∀ a o, H a = some o → H' a = some o
theorem Ex.refl (H : Hp) : Ex H H := fun _ _ h => h
theorem Ex.trans {H H1 H2 : Hp} (a : Ex H H1) (b : Ex H1 H2) : Ex H H2 := fun x o h => b x o (a x o h)
theorem Ex.new {H : Hp} {p : Addr} {o : HO} (h : H p = none) : Ex H (upd H p o) := fun a u e => by
  rw [upd_ne (ne_of_none e h)]; exact e
theorem ex_rd {H H' : Hp} {a : Addr} {u : HO} (e : Ex H H') (h : Rd H a u) : Rd H' a u := by
  rcases h with h | ⟨o, h⟩
  · exact Or.inl (e a _ h)
  · exact Or.inr ⟨o, e a _ h⟩
theorem ex_l {K : PySem.W.Frag} {H H' : Hp} {a : Addr} {xs : List V} (e : Ex H H') (h : SqL K H a xs) : SqL K H' a xs := by
  rcases h with h | h
  · exact Or.inl (ex_rd e h)
  · exact Or.inr h
theorem ex_t {K : PySem.W.Frag} {H H' : Hp} {a : Addr} {xs : List V} (e : Ex H H') (h : SqT K H a xs) : SqT K H' a xs := by
  rcases h with h | h
  · exact Or.inl (ex_rd e h)
  · exact Or.inr h
mutual
/-- the value v is the data d -/
def Rp (K : PySem.W.Frag) (I : Hp) : D → V → Prop
  | .non, v => v = .non
  | .bl b, v => v = .bl b
  | .int i, v => v = .int i
  | .str x, v => v = .str x
  | .tup l, v => ∃ a vs, v = .ref a ∧ SqT K I a vs ∧ Rps K I l vs
  | .lst l, v => ∃ a vs, v = .ref a ∧ I a = some (.lst vs) ∧ Rps K I l vs
  | .scr l, v => ∃ a, v = .ref a ∧ SqL K I a (l.map V.int)
  | .obj C ns l, v => ∃ a dx vs, v = .ref a ∧ I a = some (.ins C dx (ns.zip vs)) ∧ ns.length = vs.length ∧ Rps K I l vs
  | .dic ks l, v => ∃ a vs, v = .ref a ∧ I a = some (.dK (ks.zip vs)) ∧ ks.length = vs.length ∧ Rps K I l vs
  | .dct ks l, v => ∃ a vs, v = .ref a ∧ I a = some (.dT (ks.zip vs)) ∧ ks.length = vs.length ∧ Rps K I l vs
  | .ty n, v => v = .ty n
  | .cls C, v => v = .ref C
def Rps (K : PySem.W.Frag) (I : Hp) : List D → List V → Prop
  | [], vs => vs = []
  | d :: ds, vs => ∃ v r, vs = v :: r ∧ Rp K I d v ∧ Rps K I ds r
end
mutual
theorem Rp.ex {K : PySem.W.Frag} {I I' : Hp} (e : Ex I I') : ∀ (d : D) {v : V}, Rp K I d v → Rp K I' d v
  | .non, _, h => h
  | .bl _, _, h => h
  | .int _, _, h => h
  | .str _, _, h => h
  | .tup l, _, ⟨a, vs, h1, h2, h3⟩ => ⟨a, vs, h1, ex_t e h2, Rps.ex e l h3⟩
  | .lst l, _, ⟨a, vs, h1, h2, h3⟩ => ⟨a, vs, h1, e _ _ h2, Rps.ex e l h3⟩
  | .scr l, _, ⟨a, h1, h2⟩ => ⟨a, h1, ex_l e h2⟩
  | .obj C ns l, _, ⟨a, dx, vs, h1, h2, h3, h4⟩ => ⟨a, dx, vs, h1, e _ _ h2, h3, Rps.ex e l h4⟩
  | .dic ks l, _, ⟨a, vs, h1, h2, h3, h4⟩ => ⟨a, vs, h1, e _ _ h2, h3, Rps.ex e l h4⟩
  | .dct ks l, _, ⟨a, vs, h1, h2, h3, h4⟩ => ⟨a, vs, h1, e _ _ h2, h3, Rps.ex e l h4⟩
  | .ty _, _, h => h
  | .cls _, _, h => h
theorem Rps.ex {K : PySem.W.Frag} {I I' : Hp} (e : Ex I I') : ∀ (l : List D) {vs : List V}, Rps K I l vs → Rps K I' l vs
  | [], _, h => h
  | d :: ds, _, ⟨v, r, h1, h2, h3⟩ => ⟨v, r, h1, Rp.ex e d h2, Rps.ex e ds h3⟩
end
section
variable {K : PySem.W.Frag} {I : Hp}
theorem Rps.len : ∀ {l : List D} {vs : List V}, Rps K I l vs → vs.length = l.length
  | [], _, h => by rw [show _ = [] from h]; rfl
  | d :: ds, _, ⟨v, r, h1, h2, h3⟩ => by rw [h1, List.length_cons, List.length_cons, Rps.len h3]
theorem Rps.get : ∀ {l : List D} {vs : List V} {i : Nat} {d : D}, Rps K I l vs → l[i]? = some d → ∃ v, vs[i]? = some v ∧ Rp K I d v
  | [], _, _, _, _, e => by simp at e
  | d :: ds, _, 0, x, ⟨v, r, h1, h2, h3⟩, e => by
    have : d = x := by simpa using e
    subst this
    exact ⟨v, by rw [h1]; rfl, h2⟩
  | d :: ds, _, i + 1, x, ⟨v, r, h1, h2, h3⟩, e => by
    obtain ⟨u, g1, g2⟩ := Rps.get (i := i) (d := x) h3 (by simpa using e)
    exact ⟨u, by rw [h1]; simpa using g1, g2⟩
theorem Rps.nil : Rps K I [] [] := rfl
theorem Rps.cons {d : D} {v : V} {l : List D} {vs : List V} (h : Rp K I d v) (r : Rps K I l vs) : Rps K I (d :: l) (v :: vs) := ⟨v, vs, rfl, h, r⟩
theorem Rps.append : ∀ {l m : List D} {vs ws : List V}, Rps K I l vs → Rps K I m ws → Rps K I (l ++ m) (vs ++ ws)
  | [], _, _, _, h, g => by rw [show _ = [] from h]; exact g
  | d :: ds, _, _, _, ⟨v, r, h1, h2, h3⟩, g => by rw [h1]; exact ⟨v, _, rfl, h2, Rps.append h3 g⟩
theorem Rps.snoc {l : List D} {d : D} {vs : List V} {v : V} (h : Rps K I l vs) (g : Rp K I d v) : Rps K I (l ++ [d]) (vs ++ [v]) := Rps.append h (Rps.cons g Rps.nil)
theorem Rps.take : ∀ (n : Nat) {l : List D} {vs : List V}, Rps K I l vs → Rps K I (l.take n) (vs.take n)
  | 0, _, _, _ => by rw [List.take_zero, List.take_zero]; exact Rps.nil
  | _ + 1, [], _, h => by rw [show _ = [] from h]; exact Rps.nil
  | n + 1, d :: ds, _, ⟨v, r, h1, h2, h3⟩ => by rw [h1]; exact ⟨v, _, rfl, h2, Rps.take n h3⟩
theorem Rps.drop : ∀ (n : Nat) {l : List D} {vs : List V}, Rps K I l vs → Rps K I (l.drop n) (vs.drop n)
  | 0, _, _, h => h
  | _ + 1, [], _, h => by rw [show _ = [] from h]; exact Rps.nil
  | n + 1, d :: ds, _, ⟨v, r, h1, h2, h3⟩ => by rw [h1]; exact Rps.drop n h3
theorem Rps.set : ∀ (i : Nat) {l : List D} {vs : List V} {d : D} {v : V}, Rps K I l vs → Rp K I d v → Rps K I (l.set i d) (vs.set i v)
  | _, [], _, _, _, h, _ => by rw [show _ = [] from h]; exact Rps.nil
  | 0, d :: ds, _, _, _, ⟨v, r, h1, h2, h3⟩, g => by rw [h1]; exact ⟨_, _, rfl, g, h3⟩
  | i + 1, d :: ds, _, _, _, ⟨v, r, h1, h2, h3⟩, g => by rw [h1]; exact ⟨_, _, rfl, h2, Rps.set i h3 g⟩
theorem Rps.rev : ∀ {l : List D} {vs : List V}, Rps K I l vs → Rps K I l.reverse vs.reverse
  | [], _, h => by rw [show _ = [] from h]; exact Rps.nil
  | d :: ds, _, ⟨v, r, h1, h2, h3⟩ => by
    rw [h1, List.reverse_cons, List.reverse_cons]
    exact Rps.snoc (Rps.rev h3) h2
theorem Rps.ints : ∀ {l : List Int} {vs : List V}, Rps K I (l.map D.int) vs → vs = l.map V.int
  | [], _, h => h
  | i :: r, _, ⟨v, q, h1, h2, h3⟩ => by rw [h1, Rps.ints h3, show v = .int i from h2]; rfl
theorem Rps.ofInts : ∀ (l : List Int), Rps K I (l.map D.int) (l.map V.int)
  | [] => Rps.nil
  | i :: r => Rps.cons (show Rp K I (.int i) (.int i) from rfl) (Rps.ofInts r)
theorem Rps.bls : ∀ {l : List Bool} {vs : List V}, Rps K I (l.map D.bl) vs → vs = l.map V.bl
  | [], _, h => h
  | i :: r, _, ⟨v, q, h1, h2, h3⟩ => by rw [h1, Rps.bls h3, show v = .bl i from h2]; rfl
end
/-- what a name, an expression holds: data, or the n-th cell -/
inductive W where
  | im (d : D) | ce (n : Nat)
/-- a mutable object -/
inductive Cell where
  | lst (l : List D) | dic (ks : List Key) (l : List D) | ins (C : Addr) (ns : List Str) (ws : List W) | xo (R : Hp → Addr → HO → Prop) | xw (R : Hp → List V → Addr → HO → Prop) (ws : List W)
/-- a state of the world: the immutable part, the heap, the cells' addresses, the cells -/
structure Wd where
  I : Hp
  H : Hp
  th : List Addr
  c : List Cell
def RW (K : PySem.W.Frag) (I : Hp) (th : List Addr) : W → V → Prop
  | .im d, v => Rp K I d v
  | .ce n, v => ∃ a, th[n]? = some a ∧ v = .ref a
def RWs (K : PySem.W.Frag) (I : Hp) (th : List Addr) : List W → List V → Prop
  | [], vs => vs = []
  | w :: ws, vs => ∃ v r, vs = v :: r ∧ RW K I th w v ∧ RWs K I th ws r
def CellOk (K : PySem.W.Frag) (I H : Hp) (th : List Addr) (a : Addr) : Cell → Prop
  | .lst l => ∃ vs, H a = some (.lst vs) ∧ Rps K I l vs
  | .dic ks l => ∃ vs, H a = some (.dK (ks.zip vs)) ∧ ks.length = vs.length ∧ Rps K I l vs
  | .ins C ns ws => ∃ dx vs, H a = some (.ins C dx (ns.zip vs)) ∧ ns.length = vs.length ∧ RWs K I th ws vs
  | .xo R => ∃ o, H a = some o ∧ ∀ I', Ex I I' → R I' a o
  | .xw R ws => ∃ o vs, H a = some o ∧ RWs K I th ws vs ∧ ∀ I', Ex I I' → R I' vs a o
structure Wd.Ok (K : PySem.W.Frag) (κ : Wd) : Prop where
  ex : Ex κ.I κ.H
  len : κ.th.length = κ.c.length
  nd : κ.th.Nodup
  off : ∀ a ∈ κ.th, κ.I a = none
  cl : ∀ (n : Nat) a k, κ.th[n]? = some a → κ.c[n]? = some k → CellOk K κ.I κ.H κ.th a k
structure Wd.le (κ κ' : Wd) : Prop where
  ii : Ex κ.I κ'.I
  th : ∀ (n : Nat) a, κ.th[n]? = some a → κ'.th[n]? = some a
  fr : ∀ a o, κ.H a = some o → a ∉ κ.th → κ'.H a = some o
  hd : ∀ a, κ.H a ≠ none → κ'.H a ≠ none
  nw : ∀ a, κ.H a ≠ none → κ.I a = none → κ'.I a = none
  nt : ∀ a, a ∈ κ'.th → a ∉ κ.th → κ.H a = none
theorem mem_of_at {l : List Addr} {n : Nat} {a : Addr} (h : l[n]? = some a) : a ∈ l := List.mem_of_getElem? h
theorem Wd.le.refl (κ : Wd) : κ.le κ := ⟨Ex.refl _, fun _ _ h => h, fun _ _ h _ => h, fun _ h => h, fun _ _ h => h, fun _ h n => absurd h n⟩
theorem Wd.le.trans {κ κ1 κ2 : Wd} (a : κ.le κ1) (b : κ1.le κ2) : κ.le κ2 where
  ii := a.ii.trans b.ii
  th := fun n x h => b.th n x (a.th n x h)
  fr := fun x o h n => b.fr x o (a.fr x o h n) fun m => by
    rw [a.nt x m n] at h; cases h
  hd := fun x h => b.hd x (a.hd x h)
  nw := fun x h n => b.nw x (a.hd x h) (a.nw x h n)
  nt := fun x h n => by
    by_cases m : x ∈ κ1.th
    · exact a.nt x m n
    · have z := b.nt x h m
      cases q : κ.H x with
      | none => rfl
      | some o => exact absurd z (a.hd x (by rw [q]; intro e; cases e))
section
variable {K : PySem.W.Frag}
theorem RW.mono {I I' : Hp} {th th' : List Addr} (e : Ex I I') (t : ∀ (n : Nat) a, th[n]? = some a → th'[n]? = some a) : ∀ {w : W} {v : V}, RW K I th w v → RW K I' th' w v
  | .im d, _, h => Rp.ex e d h
  | .ce n, _, ⟨a, h1, h2⟩ => ⟨a, t n a h1, h2⟩
theorem RWs.mono {I I' : Hp} {th th' : List Addr} (e : Ex I I') (t : ∀ (n : Nat) a, th[n]? = some a → th'[n]? = some a) : ∀ {ws : List W} {vs : List V}, RWs K I th ws vs → RWs K I' th' ws vs
  | [], _, h => h
  | w :: ws, _, ⟨v, r, h1, h2, h3⟩ => ⟨v, r, h1, h2.mono e t, RWs.mono e t h3⟩
theorem RW.le {κ κ' : Wd} (e : κ.le κ') : ∀ {w : W} {v : V}, RW K κ.I κ.th w v → RW K κ'.I κ'.th w v
  | .im d, _, h => Rp.ex e.ii d h
  | .ce n, _, ⟨a, h1, h2⟩ => ⟨a, e.th n a h1, h2⟩
theorem RWs.le {κ κ' : Wd} (e : κ.le κ') : ∀ {ws : List W} {vs : List V}, RWs K κ.I κ.th ws vs → RWs K κ'.I κ'.th ws vs
  | [], _, h => h
  | w :: ws, _, ⟨v, r, h1, h2, h3⟩ => ⟨v, r, h1, h2.le e, RWs.le e h3⟩
theorem RWs.len {I : Hp} {th : List Addr} : ∀ {ws : List W} {vs : List V}, RWs K I th ws vs → vs.length = ws.length
  | [], _, h => by rw [show _ = [] from h]; rfl
  | w :: ws, _, ⟨v, r, h1, h2, h3⟩ => by rw [h1, List.length_cons, List.length_cons, RWs.len h3]
theorem RWs.get {I : Hp} {th : List Addr} : ∀ {ws : List W} {vs : List V} {i : Nat} {w : W}, RWs K I th ws vs → ws[i]? = some w → ∃ v, vs[i]? = some v ∧ RW K I th w v
  | [], _, _, _, _, e => by simp at e
  | w :: ws, _, 0, x, ⟨v, r, h1, h2, h3⟩, e => by
    have : w = x := by simpa using e
    subst this
    exact ⟨v, by rw [h1]; rfl, h2⟩
  | w :: ws, _, i + 1, x, ⟨v, r, h1, h2, h3⟩, e => by
    obtain ⟨u, g1, g2⟩ := RWs.get (i := i) (w := x) h3 (by simpa using e)
    exact ⟨u, by rw [h1]; simpa using g1, g2⟩
end
/-- the names' slots -/
abbrev Ρ := List (Option W)
structure REnv (K : PySem.W.Frag) (κ : Wd) (σ : L2.St) (ρ : Ρ) : Prop where
  len : σ.length = ρ.length
  at_ : ∀ (i : Nat) (w : W), ρ[i]? = some (some w) → ∃ v, σ[i]? = some (some v) ∧ RW K κ.I κ.th w v
section
variable {K : PySem.W.Frag} {κ κ' : Wd} {σ : L2.St} {ρ : Ρ}
theorem REnv.le (h : REnv K κ σ ρ) (e : κ.le κ') : REnv K κ' σ ρ := ⟨h.len, fun i w hi => by
  obtain ⟨v, h1, h2⟩ := h.at_ i w hi
  exact ⟨v, h1, h2.le e⟩⟩
theorem REnv.set (h : REnv K κ σ ρ) {i : Nat} {w : W} {v : V} (r : RW K κ.I κ.th w v) : REnv K κ (σ.set i (some v)) (ρ.set i (some w)) := ⟨by rw [List.length_set, List.length_set, h.len], fun j x hj => by
  by_cases e : i = j
  · subst e
    by_cases hl : i < ρ.length
    · rw [List.getElem?_set_self hl] at hj
      have : w = x := by simpa using hj
      subst this
      exact ⟨v, by rw [List.getElem?_set_self (by rw [h.len]; exact hl)], r⟩
    · rw [List.getElem?_eq_none (by rw [List.length_set]; omega)] at hj; cases hj
  · rw [List.getElem?_set_ne e] at hj
    rw [List.getElem?_set_ne e]
    exact h.at_ j x hj⟩
theorem REnv.unset (h : REnv K κ σ ρ) (i : Nat) : REnv K κ (σ.set i none) (ρ.set i none) := ⟨by rw [List.length_set, List.length_set, h.len], fun j x hj => by
  by_cases e : i = j
  · subst e
    by_cases hl : i < ρ.length
    · rw [List.getElem?_set_self hl] at hj; simp at hj
    · rw [List.getElem?_eq_none (by rw [List.length_set]; omega)] at hj; cases hj
  · rw [List.getElem?_set_ne e] at hj
    rw [List.getElem?_set_ne e]
    exact h.at_ j x hj⟩
def wipeW (ρ : Ρ) : List Nat → Ρ
  | [] => ρ
  | v :: vs => (wipeW ρ vs).set v none
theorem REnv.wipe (h : REnv K κ σ ρ) : ∀ vs : List Nat, REnv K κ (L2.wipe σ vs) (wipeW ρ vs)
  | [] => h
  | v :: vs => (REnv.wipe h vs).unset v
end
/-! ### how a world grows -/
section
variable {K : PySem.W.Frag} {κ : Wd}
/-- data in the immutable part is data of the heap -/
theorem Wd.Ok.rp (o : κ.Ok K) {d : D} {v : V} (h : Rp K κ.I d v) : Rp K κ.H d v := Rp.ex o.ex d h
theorem CellOk.le {κ κ' : Wd} (e : κ.le κ') {a : Addr} : ∀ {k : Cell}, CellOk K κ.I κ.H κ.th a k → κ'.H a = κ.H a → CellOk K κ'.I κ'.H κ'.th a k
  | .lst l, ⟨vs, h1, h2⟩, q => ⟨vs, q.trans h1, Rps.ex e.ii l h2⟩
  | .dic ks l, ⟨vs, h1, h2, h3⟩, q => ⟨vs, q.trans h1, h2, Rps.ex e.ii l h3⟩
  | .ins C ns ws, ⟨dx, vs, h1, h2, h3⟩, q => ⟨dx, vs, q.trans h1, h2, h3.le e⟩
  | .xo R, ⟨o, h1, h2⟩, q => ⟨o, q.trans h1, fun I' x => h2 I' (e.ii.trans x)⟩
  | .xw R ws, ⟨o, vs, h1, h2, h3⟩, q => ⟨o, vs, q.trans h1, h2.le e, fun I' x => h3 I' (e.ii.trans x)⟩
/-- a new immutable object -/
theorem Wd.new_le (o : κ.Ok K) {p : Addr} {u : HO} (hp : κ.H p = none) : κ.le ⟨upd κ.I p u, upd κ.H p u, κ.th, κ.c⟩ where
  ii := fun a x h => by
    have : a ≠ p := fun z => by subst z; rw [o.ex _ _ h] at hp; cases hp
    show upd κ.I p u a = _
    rw [upd_ne this]; exact h
  th := fun _ _ h => h
  fr := fun a x h _ => by
    show upd κ.H p u a = _
    rw [upd_ne (ne_of_none h hp)]; exact h
  hd := fun a h => by
    show upd κ.H p u a ≠ none
    have : a ≠ p := fun z => by subst z; exact h hp
    rw [upd_ne this]; exact h
  nw := fun a h n => by
    show upd κ.I p u a = none
    have : a ≠ p := fun z => by subst z; exact h hp
    rw [upd_ne this]; exact n
  nt := fun a h n => absurd h n
theorem Wd.Ok.thH (o : κ.Ok K) {a : Addr} (h : a ∈ κ.th) : κ.H a ≠ none := by
  obtain ⟨n, hn, e⟩ := List.getElem_of_mem h
  have h1 : κ.th[n]? = some a := by rw [List.getElem?_eq_getElem hn, e]
  have h2 : n < κ.c.length := by rw [← o.len]; exact hn
  have h3 : κ.c[n]? = some κ.c[n] := List.getElem?_eq_getElem h2
  have := o.cl n a _ h1 h3
  cases hk : κ.c[n] with
  | lst l => rw [hk] at this; obtain ⟨vs, q, _⟩ := this; rw [q]; intro z; cases z
  | dic ks l => rw [hk] at this; obtain ⟨vs, q, _⟩ := this; rw [q]; intro z; cases z
  | ins C ns ws => rw [hk] at this; obtain ⟨dx, vs, q, _⟩ := this; rw [q]; intro z; cases z
  | xo R => rw [hk] at this; obtain ⟨u, q, _⟩ := this; rw [q]; intro z; cases z
  | xw R ws => rw [hk] at this; obtain ⟨u, vs, q, _⟩ := this; rw [q]; intro z; cases z
theorem Wd.Ok.new (o : κ.Ok K) {p : Addr} {u : HO} (hp : κ.H p = none) : Wd.Ok K ⟨upd κ.I p u, upd κ.H p u, κ.th, κ.c⟩ where
  ex := fun a x h => by
    show upd κ.H p u a = some x
    have h : upd κ.I p u a = some x := h
    by_cases e : a = p
    · subst e
      rw [upd_same] at h
      cases h; exact upd_same
    · rw [upd_ne e] at h
      rw [upd_ne e]; exact o.ex _ _ h
  len := o.len
  nd := o.nd
  off := fun a h => by
    show upd κ.I p u a = none
    have : a ≠ p := fun z => by subst z; exact o.thH h hp
    rw [upd_ne this]; exact o.off a h
  cl := fun n a k h1 h2 => (o.cl n a k h1 h2).le (Wd.new_le o hp) (by
    show upd κ.H p u a = κ.H a
    have : a ≠ p := fun z => by subst z; exact o.thH (mem_of_at h1) hp
    rw [upd_ne this])
/-- a new tracked object that no name of data speaks of (an instance's own dict) -/
theorem Wd.aux_le {p : Addr} {u : HO} (hp : κ.H p = none) : κ.le ⟨κ.I, upd κ.H p u, κ.th, κ.c⟩ where
  ii := Ex.refl _
  th := fun _ _ h => h
  fr := fun a x h _ => by
    show upd κ.H p u a = _
    rw [upd_ne (ne_of_none h hp)]; exact h
  hd := fun a h => by
    show upd κ.H p u a ≠ none
    have : a ≠ p := fun z => by subst z; exact h hp
    rw [upd_ne this]; exact h
  nw := fun _ _ n => n
  nt := fun a h n => absurd h n
theorem Wd.Ok.aux (o : κ.Ok K) {p : Addr} {u : HO} (hp : κ.H p = none) : Wd.Ok K ⟨κ.I, upd κ.H p u, κ.th, κ.c⟩ where
  ex := o.ex.trans (Ex.new hp)
  len := o.len
  nd := o.nd
  off := o.off
  cl := fun n a k h1 h2 => (o.cl n a k h1 h2).le (Wd.aux_le hp) (by
    show upd κ.H p u a = κ.H a
    have : a ≠ p := fun z => by subst z; exact o.thH (mem_of_at h1) hp
    rw [upd_ne this])
/-- a new cell -/
theorem Wd.cell_le {p : Addr} {u : HO} {k : Cell} (hp : κ.H p = none) : κ.le ⟨κ.I, upd κ.H p u, κ.th ++ [p], κ.c ++ [k]⟩ where
  ii := Ex.refl _
  th := fun n a h => by
    show (κ.th ++ [p])[n]? = some a
    rw [List.getElem?_append_left (List.getElem?_eq_some_iff.mp h).1]; exact h
  fr := fun a x h _ => by
    show upd κ.H p u a = _
    rw [upd_ne (ne_of_none h hp)]; exact h
  hd := fun a h => by
    show upd κ.H p u a ≠ none
    have : a ≠ p := fun z => by subst z; exact h hp
    rw [upd_ne this]; exact h
  nw := fun _ _ n => n
  nt := fun a h n => by
    rcases List.mem_append.mp h with h | h
    · exact absurd h n
    · have : a = p := by simpa using h
      subst this; exact hp
theorem Wd.Ok.cell (o : κ.Ok K) {p : Addr} {u : HO} {k : Cell} (hp : κ.H p = none) (hk : CellOk K κ.I (upd κ.H p u) (κ.th ++ [p]) p k) : Wd.Ok K ⟨κ.I, upd κ.H p u, κ.th ++ [p], κ.c ++ [k]⟩ where
  ex := o.ex.trans (Ex.new hp)
  len := by
    show (κ.th ++ [p]).length = (κ.c ++ [k]).length
    rw [List.length_append, List.length_append, o.len]; rfl
  nd := by
    show (κ.th ++ [p]).Nodup
    refine List.nodup_append.mpr ⟨o.nd, by simp, fun a ha b hb => ?_⟩
    have : b = p := by simpa using hb
    subst this
    intro z; subst z; exact o.thH ha hp
  off := fun a h => by
    rcases List.mem_append.mp h with h | h
    · exact o.off a h
    · have : a = p := by simpa using h
      subst this
      show κ.I a = none
      cases q : κ.I a with
      | none => rfl
      | some x => rw [o.ex _ _ q] at hp; cases hp
  cl := fun n a k' h1 h2 => by
    have g1 : (κ.th ++ [p])[n]? = some a := h1
    have g2 : (κ.c ++ [k])[n]? = some k' := h2
    clear h1 h2
    by_cases hn : n < κ.th.length
    · rw [List.getElem?_append_left hn] at g1
      rw [List.getElem?_append_left (by rw [← o.len]; exact hn)] at g2
      refine (o.cl n a k' g1 g2).le (Wd.cell_le (k := k) hp) ?_
      show upd κ.H p u a = κ.H a
      have : a ≠ p := fun z => by subst z; exact o.thH (List.mem_of_getElem? g1) hp
      rw [upd_ne this]
    · have hl := (List.getElem?_eq_some_iff.mp g1).1
      rw [List.length_append, List.length_singleton] at hl
      have e : n = κ.th.length := by omega
      subst e
      rw [List.getElem?_append_right (Nat.le_refl _), Nat.sub_self] at g1
      rw [List.getElem?_append_right (by rw [o.len]; exact Nat.le_refl _), o.len, Nat.sub_self] at g2
      have : p = a := by simpa using g1
      subst this
      have : k = k' := by simpa using g2
      subst this
      exact hk
/-- a cell is written -/
theorem Wd.put_le (o : κ.Ok K) {n : Nat} {p : Addr} {u : HO} {k : Cell} (h : κ.th[n]? = some p) : κ.le ⟨κ.I, upd κ.H p u, κ.th, κ.c.set n k⟩ where
  ii := Ex.refl _
  th := fun _ _ h => h
  fr := fun a x h1 h2 => by
    show upd κ.H p u a = _
    have : a ≠ p := fun z => by subst z; exact h2 (mem_of_at h)
    rw [upd_ne this]; exact h1
  hd := fun a h1 => by
    show upd κ.H p u a ≠ none
    by_cases e : a = p
    · subst e; rw [upd_same]; intro z; cases z
    · rw [upd_ne e]; exact h1
  nw := fun _ _ n => n
  nt := fun a h n => absurd h n
theorem Wd.Ok.put (o : κ.Ok K) {n : Nat} {p : Addr} {u : HO} {k : Cell} (h : κ.th[n]? = some p) (hk : CellOk K κ.I (upd κ.H p u) κ.th p k) : Wd.Ok K ⟨κ.I, upd κ.H p u, κ.th, κ.c.set n k⟩ where
  ex := fun a x h1 => by
    show upd κ.H p u a = _
    have : a ≠ p := fun z => by subst z; rw [o.off _ (mem_of_at h)] at h1; cases h1
    rw [upd_ne this]; exact o.ex _ _ h1
  len := by
    show κ.th.length = (κ.c.set n k).length
    rw [List.length_set]; exact o.len
  nd := o.nd
  off := o.off
  cl := fun m a k' h1 h2 => by
    have h2 : (κ.c.set n k)[m]? = some k' := h2
    by_cases e : n = m
    · subst e
      rw [h] at h1
      have : p = a := by simpa using h1
      subst this
      have hl : n < κ.c.length := by rw [← o.len]; exact (List.getElem?_eq_some_iff.mp h).1
      rw [List.getElem?_set_self hl] at h2
      have : k = k' := by simpa using h2
      subst this
      exact hk
    · rw [List.getElem?_set_ne e] at h2
      refine (o.cl m a k' h1 h2).le (Wd.put_le (k := k) o h) ?_
      show upd κ.H p u a = κ.H a
      have : a ≠ p := fun z => by
        subst z
        obtain ⟨l1, e1⟩ := List.getElem?_eq_some_iff.mp h
        obtain ⟨l2, e2⟩ := List.getElem?_eq_some_iff.mp h1
        exact e ((List.getElem_inj o.nd).mp (e1.trans e2.symm))
      rw [upd_ne this]
end
end WL
/-! The judgements over plain data, the rules of expressions. -/
namespace WL
open PySem PySem.Spec PyProof.Rows L2
/-! ### the weakest readings -/
def wE (X : Cx) (e : Expr) : TE := fun σ H Q => ∀ (pins : List (Addr × Obj)) (s : Shared), Inv X pins σ H s → wpAny (model X.prog X.w) X.A (eval e X.env) (EP X pins σ Q) X.xe s
def wT (X : Cx) (e : Expr) : TT := fun σ H Q => ∀ (pins : List (Addr × Obj)) (s : Shared), Inv X pins σ H s → wpAny (model X.prog X.w) X.A (isTrue e X.env (eval e X.env)) (TP X pins σ Q) X.xe s
def wW (X : Cx) (e : Expr) : TT := fun σ H Q => ∀ (whole : Sem Value) (pins : List (Addr × Obj)) (s : Shared), Inv X pins σ H s → wpAny (model X.prog X.w) X.A (isTrue e X.env whole) (TP X pins σ Q) X.xe s
def wA (X : Cx) (es : List Expr) : TA := fun σ H Q => ∀ (pos : Pos) (pins : List (Addr × Obj)) (s : Shared), Inv X pins σ H s → wpAny (model X.prog X.w) X.A (spliced (backTo pos (starEach es X.env))) (AP X pins σ Q) X.xe s
def wS (X : Cx) (st : Stmt) : TS := fun D σ H => ∀ (pins : List (Addr × Obj)) (s : Shared), Inv X pins σ H s → wpAny (model X.prog X.w) X.A (exec st X.env) (SP X pins D) X.xe s
def wSs (X : Cx) (sts : List Stmt) : TS := fun D σ H => ∀ (pins : List (Addr × Obj)) (s : Shared), Inv X pins σ H s → wpAny (model X.prog X.w) X.A (execs sts X.env) (SP X pins D) X.xe s
def wG (X : Cx) (tg : Expr) : TG := fun v σ H Q => ∀ (pins : List (Addr × Obj)) (s : Shared) (u : Value), Inv X pins σ H s → RelV v u → wpAny (model X.prog X.w) X.A (assign tg X.env u) (fun _ s' => ∃ σ' H', Inv X pins σ' H' s' ∧ Q σ' H') X.xe s
def wGs (X : Cx) (ts : List Expr) : TGs := fun vs σ H Q => ∀ (pins : List (Addr × Obj)) (s : Shared) (us : List Value), Inv X pins σ H s → Vals vs us → wpAny (model X.prog X.w) X.A (assignInOrder ((assignEach ts X.env).map (·.2)) us) (fun _ s' => ∃ σ' H', Inv X pins σ' H' s' ∧ Q σ' H') X.xe s
def wO (X : Cx) (f : Value → Value → Sem Value) : R2 := fun x y H Q => ∀ (pins : List (Addr × Obj)) (s : Shared) (σ : L2.St) (v u : Value), Inv X pins σ H s → RelV x v → RelV y u → wpAny (model X.prog X.w) X.A (f v u) (EP X pins σ Q) X.xe s
def wU (X : Cx) (f : Value → Sem Value) : V → Hp → VK → Prop := fun x H Q => ∀ (pins : List (Addr × Obj)) (s : Shared) (σ : L2.St) (v : Value), Inv X pins σ H s → RelV x v → wpAny (model X.prog X.w) X.A (f v) (EP X pins σ Q) X.xe s
def wC (X : Cx) (f : Value) : List V → Hp → VK → Prop := fun xs H Q => ∀ (pins : List (Addr × Obj)) (s : Shared) (σ : L2.St) (us : List Value), Inv X pins σ H s → Vals xs us → wpAny (model X.prog X.w) X.A (call f us) (EP X pins σ Q) X.xe s
def wIx (X : Cx) : R2 := fun x y H Q => ∀ (value slice : Expr) (pins : List (Addr × Obj)) (s : Shared) (σ : L2.St) (v u : Value), Inv X pins σ H s → RelV x v → RelV y u →
    subscripted slice false v u = operate [v, u] (getItem v u) → wpAny (model X.prog X.w) X.A (subscriptTail value slice v u) (EP X pins σ Q) X.xe s
def wM (X : Cx) (id : String) : V → List V → Hp → VK → Prop := fun x xs H Q => ∀ (pins : List (Addr × Obj)) (s : Shared) (σ : L2.St) (v : Value) (us : List Value), Inv X pins σ H s → RelV x v → Vals xs us → wpAny (model X.prog X.w) X.A (call (.builtin id) (v :: us)) (EP X pins σ Q) X.xe s
def wTru (X : Cx) : V → Hp → (Bool → Hp → Prop) → Prop := fun x H Q => ∀ (pins : List (Addr × Obj)) (s : Shared) (σ : L2.St) (v : Value), Inv X pins σ H s → RelV x v → wpAny (model X.prog X.w) X.A (truthy v) (TP X pins σ Q) X.xe s
section
variable {X : Cx}
theorem pe_w {e : Expr} : PE X e (wE X e) := ⟨fun pins s σ H Q I h => h pins s I⟩
theorem pt_w {e : Expr} : PT X e (wT X e) := ⟨fun pins s σ H Q I h => h pins s I⟩
theorem pw_w {e : Expr} : PW X e (wW X e) := ⟨fun wh pins s σ H Q I h => h wh pins s I⟩
theorem pa_w {es : List Expr} : PA X es (wA X es) := ⟨fun pos pins s σ H Q I h => h pos pins s I⟩
theorem ps_w {st : Stmt} : PS X st (wS X st) := ⟨fun pins s σ H D I h => h pins s I⟩
theorem pss_w {sts : List Stmt} : PSs X sts (wSs X sts) := ⟨fun pins s σ H D I h => h pins s I⟩
theorem op_w {f : Value → Value → Sem Value} : OpR X f (wO X f) := fun pins s σ H x y v u Q I rx ry h => h pins s σ v u I rx ry
theorem un_w {f : Value → Sem Value} : UnR X f (wU X f) := fun pins s σ H x v Q I rx h => h pins s σ v I rx
theorem call_w {f : Value} : CallR X f (wC X f) := fun pins s σ H xs us Q I r h => h pins s σ us I r
theorem ix_w : IxR X (wIx X) := fun value slice pins s σ H x y v u Q I rx ry h hs => h value slice pins s σ v u I rx ry hs
theorem mt_w {id : String} : MtR X id (wM X id) := fun pins s σ H x xs v us Q I rx rs h => h pins s σ v us I rx rs
theorem PE.w {e : Expr} {t : TE} {σ : L2.St} {H : Hp} {Q : VK} (h : PE X e t) (q : t σ H Q) : wE X e σ H Q := fun pins s I => h.run pins s σ H Q I q
theorem PT.w {e : Expr} {t : TT} {σ : L2.St} {H : Hp} {Q : Bool → Hp → Prop} (h : PT X e t) (q : t σ H Q) : wT X e σ H Q := fun pins s I => h.run pins s σ H Q I q
theorem PW.w {e : Expr} {t : TT} {σ : L2.St} {H : Hp} {Q : Bool → Hp → Prop} (h : PW X e t) (q : t σ H Q) : wW X e σ H Q := fun wh pins s I => h.run wh pins s σ H Q I q
theorem PA.w {es : List Expr} {t : TA} {σ : L2.St} {H : Hp} {Q : List V → Hp → Prop} (h : PA X es t) (q : t σ H Q) : wA X es σ H Q := fun pos pins s I => h.run pos pins s σ H Q I q
theorem PS.w {st : Stmt} {t : TS} {σ : L2.St} {H : Hp} {D : Ends} (h : PS X st t) (q : t D σ H) : wS X st D σ H := fun pins s I => h.run pins s σ H D I q
theorem PSs.w {sts : List Stmt} {t : TS} {σ : L2.St} {H : Hp} {D : Ends} (h : PSs X sts t) (q : t D σ H) : wSs X sts D σ H := fun pins s I => h.run pins s σ H D I q
theorem PG.w {tg : Expr} {t : TG} {v : V} {σ : L2.St} {H : Hp} {Q : L2.St → Hp → Prop} (h : PG X tg t) (q : t v σ H Q) : wG X tg v σ H Q := fun pins s u I r => h.run pins s σ H v u Q I r q
theorem PGs.w {ts : List Expr} {t : TGs} {vs : List V} {σ : L2.St} {H : Hp} {Q : L2.St → Hp → Prop} (h : PGs X ts t) (q : t vs σ H Q) : wGs X ts vs σ H Q := fun pins s us I r => h.run pins s σ H vs us Q I r q
theorem OpR.w {f : Value → Value → Sem Value} {r : R2} {x y : V} {H : Hp} {Q : VK} (h : OpR X f r) (q : r x y H Q) : wO X f x y H Q := fun pins s σ v u I rx ry => h pins s σ H x y v u Q I rx ry q
theorem UnR.w {f : Value → Sem Value} {r : V → Hp → VK → Prop} {x : V} {H : Hp} {Q : VK} (h : UnR X f r) (q : r x H Q) : wU X f x H Q := fun pins s σ v I rx => h pins s σ H x v Q I rx q
theorem CallR.w {f : Value} {r : List V → Hp → VK → Prop} {xs : List V} {H : Hp} {Q : VK} (h : CallR X f r) (q : r xs H Q) : wC X f xs H Q := fun pins s σ us I rs => h pins s σ H xs us Q I rs q
theorem IxR.w {r : R2} {x y : V} {H : Hp} {Q : VK} (h : IxR X r) (q : r x y H Q) : wIx X x y H Q := fun value slice pins s σ v u I rx ry hs => h value slice pins s σ H x y v u Q I rx ry q hs
theorem MtR.w {id : String} {r : V → List V → Hp → VK → Prop} {x : V} {xs : List V} {H : Hp} {Q : VK} (h : MtR X id r) (q : r x xs H Q) : wM X id x xs H Q := fun pins s σ v us I rx rs => h pins s σ H x xs v us Q I rx rs q
theorem TruR.w {r : V → Hp → (Bool → Hp → Prop) → Prop} {x : V} {H : Hp} {Q : Bool → Hp → Prop} (h : TruR X r) (q : r x H Q) : wTru X x H Q := fun pins s σ v I rx => h pins s σ H x v Q I rx q
end
/-! ### the judgements -/
structure Exn where
  C : Addr
  ns : List Str
  l : List D
def RX (K : PySem.W.Frag) (κ : Wd) (x : Exn) (C : Value) (d : Option Addr) : Prop :=
  C = .ref x.C ∧ ((x.ns = [] ∧ x.l = [] ∧ d = none) ∨ ∃ a vs, d = some a ∧ κ.H a = some (.xd (x.ns.zip vs)) ∧ x.ns.length = vs.length ∧ Rps K κ.I x.l vs)
/-- a context: what is wanted of an exception -/
structure Cy where
  X : Cx
  Wx : WX
  tk : Takes X Wx
  po : PassesOwn (model X.prog X.w) X.A X.env X.xe
  Qx : Exn → Ρ → List Cell → Prop
abbrev KQ := W → List Cell → Prop
/-- without a value: exceptions alone -/
structure GoX (Y : Cy) (κ : Wd) (σ : L2.St) (ρ : Ρ) : Prop where
  ex : ∀ x C d κ', κ.le κ' → κ'.Ok Y.X.K → RX Y.X.K κ' x C d → Y.Qx x ρ κ'.c → Y.Wx C d σ κ'.H
def GoT (Y : Cy) (κ : Wd) (Q' : Bool → Hp → Prop) (Q : Bool → List Cell → Prop) : Prop := ∀ b κ', κ.le κ' → κ'.Ok Y.X.K → Q b κ'.c → Q' b κ'.H
def GoV (Y : Cy) (κ : Wd) (Q' : VK) (Q : KQ) : Prop := ∀ v w κ', κ.le κ' → κ'.Ok Y.X.K → RW Y.X.K κ'.I κ'.th w v → Q w κ'.c → Q' v κ'.H
def GoA (Y : Cy) (κ : Wd) (Q' : List V → Hp → Prop) (Q : List W → List Cell → Prop) : Prop := ∀ vs ws κ', κ.le κ' → κ'.Ok Y.X.K → RWs Y.X.K κ'.I κ'.th ws vs → Q ws κ'.c → Q' vs κ'.H
def WE (Y : Cy) (ρ : Ρ) (c : List Cell) (e : Expr) (Q : KQ) : Prop := ∀ κ σ, κ.c = c → κ.Ok Y.X.K → REnv Y.X.K κ σ ρ → GoX Y κ σ ρ → ∀ Q', GoV Y κ Q' Q → wE Y.X e σ κ.H Q'
def WT (Y : Cy) (ρ : Ρ) (c : List Cell) (e : Expr) (Q : Bool → List Cell → Prop) : Prop := ∀ κ σ, κ.c = c → κ.Ok Y.X.K → REnv Y.X.K κ σ ρ → GoX Y κ σ ρ → ∀ Q', GoT Y κ Q' Q → wT Y.X e σ κ.H Q'
def WW (Y : Cy) (ρ : Ρ) (c : List Cell) (e : Expr) (Q : Bool → List Cell → Prop) : Prop := ∀ κ σ, κ.c = c → κ.Ok Y.X.K → REnv Y.X.K κ σ ρ → GoX Y κ σ ρ → ∀ Q', GoT Y κ Q' Q → wW Y.X e σ κ.H Q'
def WA (Y : Cy) (ρ : Ρ) (c : List Cell) (es : List Expr) (Q : List W → List Cell → Prop) : Prop := ∀ κ σ, κ.c = c → κ.Ok Y.X.K → REnv Y.X.K κ σ ρ → GoX Y κ σ ρ → ∀ Q', GoA Y κ Q' Q → wA Y.X es σ κ.H Q'
/-- operations upon values -/
def WO (Y : Cy) (f : Value → Value → Sem Value) (w1 w2 : W) (c : List Cell) (Q : KQ) : Prop := ∀ κ x y, κ.c = c → κ.Ok Y.X.K → RW Y.X.K κ.I κ.th w1 x → RW Y.X.K κ.I κ.th w2 y → ∀ Q', GoV Y κ Q' Q → wO Y.X f x y κ.H Q'
def WU (Y : Cy) (f : Value → Sem Value) (w : W) (c : List Cell) (Q : KQ) : Prop := ∀ κ x, κ.c = c → κ.Ok Y.X.K → RW Y.X.K κ.I κ.th w x → ∀ Q', GoV Y κ Q' Q → wU Y.X f x κ.H Q'
def WC (Y : Cy) (f : Value) (ws : List W) (c : List Cell) (Q : KQ) : Prop := ∀ κ xs, κ.c = c → κ.Ok Y.X.K → RWs Y.X.K κ.I κ.th ws xs → ∀ Q', GoV Y κ Q' Q → wC Y.X f xs κ.H Q'
def WIx (Y : Cy) (w1 w2 : W) (c : List Cell) (Q : KQ) : Prop := ∀ κ x y, κ.c = c → κ.Ok Y.X.K → RW Y.X.K κ.I κ.th w1 x → RW Y.X.K κ.I κ.th w2 y → ∀ Q', GoV Y κ Q' Q → wIx Y.X x y κ.H Q'
def WM (Y : Cy) (id : String) (w : W) (ws : List W) (c : List Cell) (Q : KQ) : Prop := ∀ κ x xs, κ.c = c → κ.Ok Y.X.K → RW Y.X.K κ.I κ.th w x → RWs Y.X.K κ.I κ.th ws xs → ∀ Q', GoV Y κ Q' Q → wM Y.X id x xs κ.H Q'
section
variable {Y : Cy} {ρ : Ρ} {c : List Cell} {κ κ1 : Wd} {σ : L2.St} {Q : KQ} {QT : Bool → List Cell → Prop}
theorem GoX.le (g : GoX Y κ σ ρ) (e : κ.le κ1) : GoX Y κ1 σ ρ := ⟨fun x C d κ' l => g.ex x C d κ' (e.trans l)⟩
theorem GoV.le {Q' : VK} (g : GoV Y κ Q' Q) (e : κ.le κ1) : GoV Y κ1 Q' Q := fun v w κ' l => g v w κ' (e.trans l)
theorem GoT.le {Q' : Bool → Hp → Prop} (g : GoT Y κ Q' QT) (e : κ.le κ1) : GoT Y κ1 Q' QT := fun b κ' l => g b κ' (e.trans l)
theorem GoA.le {Q' : List V → Hp → Prop} {QA : List W → List Cell → Prop} (g : GoA Y κ Q' QA) (e : κ.le κ1) : GoA Y κ1 Q' QA := fun vs ws κ' l => g vs ws κ' (e.trans l)
/-- an expression, then more -/
theorem WE.bind {e : Expr} {R : VK} (h : WE Y ρ c e Q) (hc : κ.c = c) (o : κ.Ok Y.X.K) (r : REnv Y.X.K κ σ ρ) (g : GoX Y κ σ ρ)
    (k : ∀ v w κ', κ.le κ' → κ'.Ok Y.X.K → REnv Y.X.K κ' σ ρ → GoX Y κ' σ ρ → RW Y.X.K κ'.I κ'.th w v → Q w κ'.c → R v κ'.H) : wE Y.X e σ κ.H R :=
  h κ σ hc o r g R fun v w κ' l o' rw q => k v w κ' l o' (r.le l) (g.le l) rw q
theorem WT.bind {e : Expr} {R : Bool → Hp → Prop} (h : WT Y ρ c e QT) (hc : κ.c = c) (o : κ.Ok Y.X.K) (r : REnv Y.X.K κ σ ρ) (g : GoX Y κ σ ρ)
    (k : ∀ b κ', κ.le κ' → κ'.Ok Y.X.K → REnv Y.X.K κ' σ ρ → GoX Y κ' σ ρ → QT b κ'.c → R b κ'.H) : wT Y.X e σ κ.H R :=
  h κ σ hc o r g R fun b κ' l o' q => k b κ' l o' (r.le l) (g.le l) q
theorem WW.bind {e : Expr} {R : Bool → Hp → Prop} (h : WW Y ρ c e QT) (hc : κ.c = c) (o : κ.Ok Y.X.K) (r : REnv Y.X.K κ σ ρ) (g : GoX Y κ σ ρ)
    (k : ∀ b κ', κ.le κ' → κ'.Ok Y.X.K → REnv Y.X.K κ' σ ρ → GoX Y κ' σ ρ → QT b κ'.c → R b κ'.H) : wW Y.X e σ κ.H R :=
  h κ σ hc o r g R fun b κ' l o' q => k b κ' l o' (r.le l) (g.le l) q
theorem WA.bind {es : List Expr} {R : List V → Hp → Prop} {QA : List W → List Cell → Prop} (h : WA Y ρ c es QA) (hc : κ.c = c) (o : κ.Ok Y.X.K) (r : REnv Y.X.K κ σ ρ) (g : GoX Y κ σ ρ)
    (k : ∀ vs ws κ', κ.le κ' → κ'.Ok Y.X.K → REnv Y.X.K κ' σ ρ → GoX Y κ' σ ρ → RWs Y.X.K κ'.I κ'.th ws vs → QA ws κ'.c → R vs κ'.H) : wA Y.X es σ κ.H R :=
  h κ σ hc o r g R fun v w κ' l o' rw q => k v w κ' l o' (r.le l) (g.le l) rw q
theorem WE.mono {e : Expr} {Q2 : KQ} (h : WE Y ρ c e Q) (k : ∀ w c', Q w c' → Q2 w c') : WE Y ρ c e Q2 := fun κ σ hc o r g Q' G => h κ σ hc o r g Q' fun v w κ' l o' rw q => G v w κ' l o' rw (k w κ'.c q)
theorem WT.mono {e : Expr} {Q2 : Bool → List Cell → Prop} (h : WT Y ρ c e QT) (k : ∀ b c', QT b c' → Q2 b c') : WT Y ρ c e Q2 := fun κ σ hc o r g Q' G => h κ σ hc o r g Q' fun b κ' l o' q => G b κ' l o' (k b κ'.c q)
/-! ### names, constants -/
theorem ix_of {N : List Str} {x : Str} {i : Nat} (h : N.idxOf? x = some i) : N[i]? = some x := by
  unfold List.idxOf? at h
  obtain ⟨hl, h1, _⟩ := List.findIdx?_eq_some_iff_getElem.mp h
  rw [List.getElem?_eq_getElem hl, eq_of_beq h1]
theorem we_name {i : Nat} {x : Str} {w : W} {pos : Pos} (hN : Y.X.N.idxOf? x = some i) (hr : ρ[i]? = some (some w)) (q : Q w c) (hv : Vis Y.X.env.scope x := by first | exact Or.inl rfl | exact Or.inr (Or.inl rfl) | exact Or.inr (Or.inr rfl))
    (hd : (x == ("__debug__" : Str)) = false := by decide) (hcd : (x == ("__classdict__" : Str)) = false := by decide) : WE Y ρ c (.Name x pos) Q := fun κ σ hc o r g Q' G => by
  obtain ⟨v, h1, h2⟩ := r.at_ i w hr
  exact PE.w (pe_var (ix_of hN) hv hd hcd) ⟨v, h1, G v w κ (.refl _) o h2 (by rw [hc]; exact q)⟩
theorem we_int {i : Int} {j : Nat} {pos : Pos} (q : Q (.im (.int i)) c) : WE Y ρ c (.Constant (.int i) j pos) Q := fun κ σ hc o r g Q' G => PE.w pe_int (G (.int i) (.im (.int i)) κ (.refl _) o rfl (by rw [hc]; exact q))
theorem we_bl {i : Bool} {j : Nat} {pos : Pos} (q : Q (.im (.bl i)) c) : WE Y ρ c (.Constant (.bool i) j pos) Q := fun κ σ hc o r g Q' G => PE.w pe_bl (G (.bl i) (.im (.bl i)) κ (.refl _) o rfl (by rw [hc]; exact q))
theorem we_non {j : Nat} {pos : Pos} (q : Q (.im .non) c) : WE Y ρ c (.Constant .none j pos) Q := fun κ σ hc o r g Q' G => PE.w pe_non (G .non (.im .non) κ (.refl _) o rfl (by rw [hc]; exact q))
theorem we_str {x : Str} {j : Nat} {pos : Pos} (q : Q (.im (.str x)) c) : WE Y ρ c (.Constant (.str x) j pos) Q := fun κ σ hc o r g Q' G => PE.w pe_str (G (.str x) (.im (.str x)) κ (.refl _) o rfl (by rw [hc]; exact q))
/-- a module's constant: mg tells its value, which is data whatever the heap -/
theorem we_glob {x : Str} {v : V} {u : Value} {d : D} {pos : Pos} (hg : Gl Y.X x) (hm : Y.X.mg x = some u) (r : RelV v u) (hd : ∀ I, Rp Y.X.K I d v) (q : Q (.im d) c) (hdb : (x == ("__debug__" : Str)) = false := by decide) : WE Y ρ c (.Name x pos) Q := fun κ σ hc o _ g Q' G =>
  PE.w (pe_glob hg hm r hdb) (G v (.im d) κ (.refl _) o (hd _) (by rw [hc]; exact q))
/-! ### operators -/
theorem we_bin {op : Operator} {a b : Expr} {pos : Pos} (h : WE Y ρ c a fun w1 c1 => WE Y ρ c1 b fun w2 c2 => WO Y (binaryOp op) w1 w2 c2 Q) : WE Y ρ c (.BinOp a op b pos) Q := fun κ σ hc o r g Q' G =>
  PE.w (pe_op op_w pe_w pe_w) (h.bind hc o r g fun v1 w1 κ1 l1 o1 r1 g1 rw1 q1 => q1.bind rfl o1 r1 g1 fun v2 w2 κ2 l2 o2 r2 g2 rw2 q2 => q2 κ2 v1 v2 rfl o2 (rw1.le l2) rw2 Q' (GoV.le G (l1.trans l2)))
theorem we_un {op : UnaryOp} {a : Expr} {pos : Pos} (h : WE Y ρ c a fun w1 c1 => WU Y (unaryOp op) w1 c1 Q) : WE Y ρ c (.UnaryOp op a pos) Q := fun κ σ hc o r g Q' G =>
  PE.w (pe_un un_w pe_w) (h.bind hc o r g fun v1 w1 κ1 l1 o1 r1 g1 rw1 q1 => q1 κ1 v1 rfl o1 rw1 Q' (GoV.le G l1))
theorem we_cmp {op : CmpOp} {a b : Expr} {pos : Pos} (h : WE Y ρ c a fun w1 c1 => WE Y ρ c1 b fun w2 c2 => WO Y (compareOp op) w1 w2 c2 Q) (hm : behindInMarks op b = false := by first | exact nomark _ | rfl) : WE Y ρ c (.Compare a [op] [b] pos) Q := fun κ σ hc o r g Q' G =>
  PE.w (pe_cmpR op_w pe_w pe_w hm) (h.bind hc o r g fun v1 w1 κ1 l1 o1 r1 g1 rw1 q1 => q1.bind rfl o1 r1 g1 fun v2 w2 κ2 l2 o2 r2 g2 rw2 q2 => q2 κ2 v1 v2 rfl o2 (rw1.le l2) rw2 Q' (GoV.le G (l1.trans l2)))
theorem wt_cmp {op : CmpOp} {a b : Expr} {pos : Pos} (h : WE Y ρ c a fun w1 c1 => WE Y ρ c1 b fun w2 c2 => WO Y (compareOp op) w1 w2 c2 fun w c3 => ∃ k, w = .im (.bl k) ∧ QT k c3) (hm : behindInMarks op b = false := by first | exact nomark _ | rfl) : WT Y ρ c (.Compare a [op] [b] pos) QT := fun κ σ hc o r g Q' G =>
  PT.w (pt_cmpR op_w pe_w pe_w hm) (h.bind hc o r g fun v1 w1 κ1 l1 o1 r1 g1 rw1 q1 => q1.bind rfl o1 r1 g1 fun v2 w2 κ2 l2 o2 r2 g2 rw2 q2 => q2 κ2 v1 v2 rfl o2 (rw1.le l2) rw2 _ fun v w κ' l' o' rw' ⟨k, e, q⟩ => by
    subst e
    exact ⟨k, rw', G k κ' ((l1.trans l2).trans l') o' q⟩)
/-- a value that is True or False, as a test -/
theorem wt_val {e : Expr} (h : WE Y ρ c e fun w c1 => ∃ k, w = .im (.bl k) ∧ QT k c1) (he : ∀ whole, isTrue e Y.X.env whole = (do let v ← whole; standAt e.pos; holding [v] (truthy v)) := by intro _; rfl) : WT Y ρ c e QT := fun κ σ hc o r g Q' G =>
  PT.w (pt_val pe_w he) (h.bind hc o r g fun v1 w1 κ1 l1 o1 r1 g1 rw1 ⟨k, e, q⟩ => by
    subst e
    exact ⟨k, rw1, G k κ1 l1 o1 q⟩)
theorem wt_not {a : Expr} {pos : Pos} (h : WT Y ρ c a fun b c1 => QT (!b) c1) : WT Y ρ c (.UnaryOp .Not a pos) QT := fun κ σ hc o r g Q' G =>
  PT.w (pt_not pt_w) (h.bind hc o r g fun b κ1 l1 o1 r1 g1 q1 => G (!b) κ1 l1 o1 q1)
theorem wt_and {es : List Expr} {pos : Pos} (h : WW Y ρ c (.BoolOp .And es pos) QT) : WT Y ρ c (.BoolOp .And es pos) QT := fun κ σ hc o r g Q' G => PT.w (PW.pt pw_w) (h κ σ hc o r g Q' G)
theorem wt_or {es : List Expr} {pos : Pos} (h : WW Y ρ c (.BoolOp .Or es pos) QT) : WT Y ρ c (.BoolOp .Or es pos) QT := fun κ σ hc o r g Q' G => PT.w (PW.pt pw_w) (h κ σ hc o r g Q' G)
theorem ww_and1 {a : Expr} {pos : Pos} (h : WT Y ρ c a QT) : WW Y ρ c (.BoolOp .And [a] pos) QT := fun κ σ hc o r g Q' G => PW.w (pw_and1 pt_w) (h κ σ hc o r g Q' G)
theorem ww_or1 {a : Expr} {pos : Pos} (h : WT Y ρ c a QT) : WW Y ρ c (.BoolOp .Or [a] pos) QT := fun κ σ hc o r g Q' G => PW.w (pw_or1 pt_w) (h κ σ hc o r g Q' G)
theorem ww_and {a b : Expr} {rest : List Expr} {pos : Pos} (h : WT Y ρ c a fun k c1 => if k = true then WW Y ρ c1 (.BoolOp .And (b :: rest) pos) QT else QT false c1) : WW Y ρ c (.BoolOp .And (a :: b :: rest) pos) QT := fun κ σ hc o r g Q' G =>
  PW.w (pw_and pt_w pw_w) (h.bind hc o r g fun k κ1 l1 o1 r1 g1 q1 => by
    cases k with
    | true => exact q1 κ1 σ rfl o1 r1 g1 Q' (GoT.le G l1)
    | false => exact G false κ1 l1 o1 q1)
theorem ww_or {a b : Expr} {rest : List Expr} {pos : Pos} (h : WT Y ρ c a fun k c1 => if k = true then QT true c1 else WW Y ρ c1 (.BoolOp .Or (b :: rest) pos) QT) : WW Y ρ c (.BoolOp .Or (a :: b :: rest) pos) QT := fun κ σ hc o r g Q' G =>
  PW.w (pw_or pt_w pw_w) (h.bind hc o r g fun k κ1 l1 o1 r1 g1 q1 => by
    cases k with
    | false => exact q1 κ1 σ rfl o1 r1 g1 Q' (GoT.le G l1)
    | true => exact G true κ1 l1 o1 q1)
/-- and, or, not as values: bools -/
theorem we_one {op : BoolOp} {a : Expr} {pos : Pos} (h : WE Y ρ c a Q) : WE Y ρ c (.BoolOp op [a] pos) Q := fun κ σ hc o r g Q' G => PE.w (pe_one pe_w) (h κ σ hc o r g Q' G)
theorem we_and {a b : Expr} {rest : List Expr} {pos : Pos} (h : WE Y ρ c a fun w c1 => ∃ k, w = .im (.bl k) ∧ if k = true then WE Y ρ c1 (.BoolOp .And (b :: rest) pos) Q else Q (.im (.bl false)) c1) : WE Y ρ c (.BoolOp .And (a :: b :: rest) pos) Q := fun κ σ hc o r g Q' G =>
  PE.w (pe_and pe_w pe_w) (h.bind hc o r g fun v1 w1 κ1 l1 o1 r1 g1 rw1 ⟨k, e, q1⟩ => by
    subst e
    refine ⟨k, rw1, ?_⟩
    cases k with
    | true => exact q1 κ1 σ rfl o1 r1 g1 Q' (GoV.le G l1)
    | false => exact G (.bl false) (.im (.bl false)) κ1 l1 o1 rfl q1)
theorem we_or {a b : Expr} {rest : List Expr} {pos : Pos} (h : WE Y ρ c a fun w c1 => ∃ k, w = .im (.bl k) ∧ if k = true then Q (.im (.bl true)) c1 else WE Y ρ c1 (.BoolOp .Or (b :: rest) pos) Q) : WE Y ρ c (.BoolOp .Or (a :: b :: rest) pos) Q := fun κ σ hc o r g Q' G =>
  PE.w (pe_or pe_w pe_w) (h.bind hc o r g fun v1 w1 κ1 l1 o1 r1 g1 rw1 ⟨k, e, q1⟩ => by
    subst e
    refine ⟨k, rw1, ?_⟩
    cases k with
    | false => exact q1 κ1 σ rfl o1 r1 g1 Q' (GoV.le G l1)
    | true => exact G (.bl true) (.im (.bl true)) κ1 l1 o1 rfl q1)
theorem we_not {a : Expr} {pos : Pos} (h : WE Y ρ c a fun w c1 => ∃ k, w = .im (.bl k) ∧ Q (.im (.bl (!k))) c1) : WE Y ρ c (.UnaryOp .Not a pos) Q := fun κ σ hc o r g Q' G =>
  PE.w (pe_not pe_w) (h.bind hc o r g fun v1 w1 κ1 l1 o1 r1 g1 rw1 ⟨k, e, q1⟩ => by
    subst e
    exact ⟨k, rw1, G (.bl (!k)) (.im (.bl (!k))) κ1 l1 o1 rfl q1⟩)
theorem we_ifExp {t a b : Expr} {pos : Pos} (h : WT Y ρ c t fun k c1 => if k = true then WE Y ρ c1 a Q else WE Y ρ c1 b Q) : WE Y ρ c (.IfExp t a b pos) Q := fun κ σ hc o r g Q' G =>
  PE.w (pe_ifExp pt_w pe_w pe_w) (h.bind hc o r g fun k κ1 l1 o1 r1 g1 q1 => by
    cases k with
    | true => exact q1 κ1 σ rfl o1 r1 g1 Q' (GoV.le G l1)
    | false => exact q1 κ1 σ rfl o1 r1 g1 Q' (GoV.le G l1))
/-- a op b op' d -/
theorem we_chain {op op' : CmpOp} {a b d : Expr} {pos : Pos} (h : WE Y ρ c a fun w1 c1 => WE Y ρ c1 b fun w2 c2 => WO Y (compareOp op) w1 w2 c2 fun w c3 => ∃ k, w = .im (.bl k) ∧ if k = true then WE Y ρ c3 d fun w3 c4 => WO Y (compareOp op') w2 w3 c4 Q else Q (.im (.bl false)) c3)
    (hm : lastMarks [op, op'] [b, d] = false := by with_unfolding_all rfl) : WE Y ρ c (.Compare a [op, op'] [b, d] pos) Q := fun κ σ hc o r g Q' G => by
  refine PE.w (pe_chain op_w op_w pe_w pe_w pe_w hm) (h.bind hc o r g fun v1 w1 κ1 l1 o1 r1 g1 rw1 q1 => q1.bind rfl o1 r1 g1 fun v2 w2 κ2 l2 o2 r2 g2 rw2 q2 => q2 κ2 v1 v2 rfl o2 (rw1.le l2) rw2 _ fun v w κ3 l3 o3 rw3 ⟨k, e, q⟩ => ?_)
  subst e
  refine ⟨k, rw3, ?_⟩
  cases k with
  | true => exact q.bind rfl o3 (r2.le l3) (g2.le l3) fun v4 w4 κ4 l4 o4 r4 g4 rw4 q4 => q4 κ4 v2 v4 rfl o4 ((rw2.le l3).le l4) rw4 Q' (GoV.le G (((l1.trans l2).trans l3).trans l4))
  | false => exact G (.bl false) (.im (.bl false)) κ3 ((l1.trans l2).trans l3) o3 rfl q
/-! ### argument lists, displays -/
theorem wa_nil {QA : List W → List Cell → Prop} (q : QA [] c) : WA Y ρ c [] QA := fun κ σ hc o r g Q' G => PA.w pa_nil (G [] [] κ (.refl _) o rfl (by rw [hc]; exact q))
theorem wa_cons {e : Expr} {es : List Expr} {QA : List W → List Cell → Prop} (h : WE Y ρ c e fun w c1 => WA Y ρ c1 es fun ws c2 => QA (w :: ws) c2) (hs : starEach (e :: es) Y.X.env = (false, eval e Y.X.env) :: starEach es Y.X.env := by rfl) : WA Y ρ c (e :: es) QA := fun κ σ hc o r g Q' G =>
  PA.w (pa_cons pe_w pa_w hs) (h.bind hc o r g fun v1 w1 κ1 l1 o1 r1 g1 rw1 q1 => q1.bind rfl o1 r1 g1 fun vs ws κ2 l2 o2 r2 g2 rws q2 => G (v1 :: vs) (w1 :: ws) κ2 (l1.trans l2) o2 ⟨v1, vs, rfl, rw1.le l2, rws⟩ q2)
/-- all items are data -/
def ims : List W → Option (List D)
  | [] => some []
  | .im d :: r => (ims r).map (d :: ·)
  | .ce _ :: _ => none
theorem RWs.im {K : PySem.W.Frag} {I : Hp} {th : List Addr} : ∀ {ws : List W} {ds : List D} {vs : List V}, ims ws = some ds → RWs K I th ws vs → Rps K I ds vs
  | [], ds, vs, e, h => by
    have : ds = [] := by injection e with e; exact e.symm
    subst this; exact h
  | .im d :: r, ds, _, e, ⟨v, q, h1, h2, h3⟩ => by
    cases hr : ims r with
    | none => rw [show ims (.im d :: r) = (ims r).map (d :: ·) from rfl, hr] at e; cases e
    | some l =>
      rw [show ims (.im d :: r) = (ims r).map (d :: ·) from rfl, hr] at e
      have : ds = d :: l := by injection e with e; exact e.symm
      subst this
      exact ⟨v, q, h1, h2, RWs.im hr h3⟩
  | .ce _ :: _, _, _, e, _ => by cases e
theorem ims_map (ds : List D) : ims (ds.map W.im) = some ds := by
  induction ds with
  | nil => rfl
  | cons d ds ih => show (ims (ds.map W.im)).map (d :: ·) = _; rw [ih]; rfl
theorem sz_of {n : Nat} (h : n ≤ 1000000) : n ≤ sizeLine := Nat.le_trans h (by decide)
/-- a new list, as data -/
theorem new_lst {K : PySem.W.Frag} (o : κ.Ok K) {p : Addr} {vs : List V} {l : List D} (hp : κ.H p = none) (h : Rps K κ.I l vs) : κ.le ⟨upd κ.I p (.lst vs), upd κ.H p (.lst vs), κ.th, κ.c⟩ ∧ Wd.Ok K ⟨upd κ.I p (.lst vs), upd κ.H p (.lst vs), κ.th, κ.c⟩ ∧ Rp K (upd κ.I p (.lst vs)) (.lst l) (.ref p) :=
  ⟨Wd.new_le o hp, o.new hp, p, vs, rfl, upd_same, Rps.ex (Wd.new_le o hp).ii l h⟩
theorem new_tup {K : PySem.W.Frag} (o : κ.Ok K) {p : Addr} {vs : List V} {l : List D} (hp : κ.H p = none) (h : Rps K κ.I l vs) : κ.le ⟨upd κ.I p (.tup vs), upd κ.H p (.tup vs), κ.th, κ.c⟩ ∧ Wd.Ok K ⟨upd κ.I p (.tup vs), upd κ.H p (.tup vs), κ.th, κ.c⟩ ∧ Rp K (upd κ.I p (.tup vs)) (.tup l) (.ref p) :=
  ⟨Wd.new_le o hp, o.new hp, p, vs, rfl, SqT.of upd_same, Rps.ex (Wd.new_le o hp).ii l h⟩
/-- a new list, as a cell -/
theorem new_cel {K : PySem.W.Frag} (o : κ.Ok K) {p : Addr} {vs : List V} {l : List D} (hp : κ.H p = none) (h : Rps K κ.I l vs) : κ.le ⟨κ.I, upd κ.H p (.lst vs), κ.th ++ [p], κ.c ++ [.lst l]⟩ ∧ Wd.Ok K ⟨κ.I, upd κ.H p (.lst vs), κ.th ++ [p], κ.c ++ [.lst l]⟩ ∧ RW K κ.I (κ.th ++ [p]) (.ce κ.c.length) (.ref p) :=
  ⟨Wd.cell_le hp, o.cell hp ⟨vs, upd_same, h⟩, p, by rw [← o.len]; simp, rfl⟩
theorem we_tup {es : List Expr} {k : Nat} {pos : Pos} (h : WA Y ρ c es fun ws c1 => ∃ ds, ims ws = some ds ∧ ds.length ≤ 1000000 ∧ Q (.im (.tup ds)) c1) : WE Y ρ c (.Tuple es k pos) Q := fun κ σ hc o r g Q' G =>
  PE.w (pe_tup pa_w) (h.bind hc o r g fun vs ws κ1 l1 o1 r1 g1 rws ⟨ds, hi, hl, q⟩ => by
    have hr := RWs.im hi rws
    refine ⟨by rw [hr.len]; exact sz_of hl, fun p hp => ?_⟩
    obtain ⟨l2, o2, rp⟩ := new_tup o1 hp hr
    exact G _ (.im (.tup ds)) _ (l1.trans l2) o2 rp q)
theorem we_lst {es : List Expr} {pos : Pos} (h : WA Y ρ c es fun ws c1 => ∃ ds, ims ws = some ds ∧ ds.length ≤ 1000000 ∧ Q (.im (.lst ds)) c1) : WE Y ρ c (.List es pos) Q := fun κ σ hc o r g Q' G =>
  PE.w (pe_lst pa_w) (h.bind hc o r g fun vs ws κ1 l1 o1 r1 g1 rws ⟨ds, hi, hl, q⟩ => by
    have hr := RWs.im hi rws
    refine ⟨by rw [hr.len]; exact sz_of hl, fun p hp => ?_⟩
    obtain ⟨l2, o2, rp⟩ := new_lst o1 hp hr
    exact G _ (.im (.lst ds)) _ (l1.trans l2) o2 rp q)
/-- a display that will be changed: a new cell -/
theorem we_lstC {es : List Expr} {pos : Pos} (h : WA Y ρ c es fun ws c1 => ∃ ds, ims ws = some ds ∧ ds.length ≤ 1000000 ∧ Q (.ce c1.length) (c1 ++ [.lst ds])) : WE Y ρ c (.List es pos) Q := fun κ σ hc o r g Q' G =>
  PE.w (pe_lst pa_w) (h.bind hc o r g fun vs ws κ1 l1 o1 r1 g1 rws ⟨ds, hi, hl, q⟩ => by
    have hr := RWs.im hi rws
    refine ⟨by rw [hr.len]; exact sz_of hl, fun p hp => ?_⟩
    obtain ⟨l2, o2, rp⟩ := new_cel o1 hp hr
    exact G _ _ _ (l1.trans l2) o2 rp q)
end
end WL
/-! Statements, targets, loops, comprehensions over plain data. -/
namespace WL
open PySem PySem.Spec PyProof.Rows L2
structure EndsW where
  nx : Ρ → List Cell → Prop
  rt : W → List Cell → Prop
  bk : Ρ → List Cell → Prop := fun _ _ => False
  ct : Ρ → List Cell → Prop := fun _ _ => False
structure EOk (Y : Cy) (κ0 : Wd) (Z : EndsW) (De : Ends) : Prop where
  nx : ∀ σ' κ' ρ', κ0.le κ' → κ'.Ok Y.X.K → REnv Y.X.K κ' σ' ρ' → Z.nx ρ' κ'.c → De.nx σ' κ'.H
  rt : ∀ v w κ', κ0.le κ' → κ'.Ok Y.X.K → RW Y.X.K κ'.I κ'.th w v → Z.rt w κ'.c → De.rt v κ'.H
  bk : ∀ σ' κ' ρ', κ0.le κ' → κ'.Ok Y.X.K → REnv Y.X.K κ' σ' ρ' → Z.bk ρ' κ'.c → De.bk σ' κ'.H
  ct : ∀ σ' κ' ρ', κ0.le κ' → κ'.Ok Y.X.K → REnv Y.X.K κ' σ' ρ' → Z.ct ρ' κ'.c → De.ct σ' κ'.H
  ex : ∀ x C d σ' κ' ρ', κ0.le κ' → κ'.Ok Y.X.K → REnv Y.X.K κ' σ' ρ' → RX Y.X.K κ' x C d → Y.Qx x ρ' κ'.c → Y.Wx C d σ' κ'.H
def WS (Y : Cy) (n0 : Nat) (ρ : Ρ) (c : List Cell) (st : Stmt) (Z : EndsW) : Prop :=
  ∀ κ0 κ σ, κ0.th.length = n0 → κ0.le κ → κ.c = c → κ.Ok Y.X.K → REnv Y.X.K κ σ ρ → ∀ De, EOk Y κ0 Z De → wS Y.X st De σ κ.H
def WSs (Y : Cy) (n0 : Nat) (ρ : Ρ) (c : List Cell) (sts : List Stmt) (Z : EndsW) : Prop :=
  ∀ κ0 κ σ, κ0.th.length = n0 → κ0.le κ → κ.c = c → κ.Ok Y.X.K → REnv Y.X.K κ σ ρ → ∀ De, EOk Y κ0 Z De → wSs Y.X sts De σ κ.H
section
variable {Y : Cy} {n0 : Nat} {ρ : Ρ} {c : List Cell} {Z : EndsW} {pos : Pos}
theorem EOk.gox {κ0 κ : Wd} {De : Ends} {σ : L2.St} (E : EOk Y κ0 Z De) (l : κ0.le κ) (r : REnv Y.X.K κ σ ρ) : GoX Y κ σ ρ := ⟨fun x C d κ' l' o' rx q => E.ex x C d σ κ' ρ (l.trans l') o' (r.le l') rx q⟩
theorem wss_nil (q : Z.nx ρ c) : WSs Y n0 ρ c [] Z := fun κ0 κ σ h0 l hc o r De E => PSs.w pss_nil (E.nx σ κ ρ l o r (by rw [hc]; exact q))
theorem wss_cons {st : Stmt} {rest : List Stmt} (h : WS Y n0 ρ c st { Z with nx := fun ρ' c' => WSs Y n0 ρ' c' rest Z }) : WSs Y n0 ρ c (st :: rest) Z := fun κ0 κ σ h0 l hc o r De E =>
  PSs.w (pss_cons ps_w pss_w) (h κ0 κ σ h0 l hc o r { De with nx := wSs Y.X rest De } ⟨fun σ' κ' ρ' l' o' r' q => q κ0 κ' σ' h0 l' rfl o' r' De E, E.rt, E.bk, E.ct, E.ex⟩)
theorem wss_one {st : Stmt} (h : WS Y n0 ρ c st Z) : WSs Y n0 ρ c [st] Z := fun κ0 κ σ h0 l hc o r De E => PSs.w (pss_one ps_w) (h κ0 κ σ h0 l hc o r De E)
theorem WSs.mono {sts : List Stmt} {Z2 : EndsW} (h : WSs Y n0 ρ c sts Z) (k1 : ∀ a b, Z.nx a b → Z2.nx a b) (k2 : ∀ a b, Z.rt a b → Z2.rt a b) (k3 : ∀ a b, Z.bk a b → Z2.bk a b) (k4 : ∀ a b, Z.ct a b → Z2.ct a b) : WSs Y n0 ρ c sts Z2 := fun κ0 κ σ h0 l hc o r De E =>
  h κ0 κ σ h0 l hc o r De ⟨fun σ' κ' ρ' l' o' r' q => E.nx σ' κ' ρ' l' o' r' (k1 _ _ q), fun v w κ' l' o' r' q => E.rt v w κ' l' o' r' (k2 _ _ q), fun σ' κ' ρ' l' o' r' q => E.bk σ' κ' ρ' l' o' r' (k3 _ _ q), fun σ' κ' ρ' l' o' r' q => E.ct σ' κ' ρ' l' o' r' (k4 _ _ q), E.ex⟩
/-- a word between a statement and the rest -/
theorem wss_cut {st : Stmt} {rest : List Stmt} (P : Ρ → List Cell → Prop) (h : WS Y n0 ρ c st { Z with nx := P }) (k : ∀ ρ' c', P ρ' c' → WSs Y n0 ρ' c' rest Z) : WSs Y n0 ρ c (st :: rest) Z :=
  wss_cons fun κ0 κ σ h0 l hc o r De E => h κ0 κ σ h0 l hc o r De ⟨fun σ' κ' ρ' l' o' r' q => E.nx σ' κ' ρ' l' o' r' (k _ _ q), E.rt, E.bk, E.ct, E.ex⟩
/-! ### small statements -/
theorem ws_pass (q : Z.nx ρ c) : WS Y n0 ρ c (.Pass pos) Z := fun κ0 κ σ h0 l hc o r De E => PS.w ps_pass (E.nx σ κ ρ l o r (by rw [hc]; exact q))
theorem ws_break (q : Z.bk ρ c) : WS Y n0 ρ c (.Break pos) Z := fun κ0 κ σ h0 l hc o r De E => PS.w ps_break (E.bk σ κ ρ l o r (by rw [hc]; exact q))
theorem ws_continue (q : Z.ct ρ c) : WS Y n0 ρ c (.Continue pos) Z := fun κ0 κ σ h0 l hc o r De E => PS.w ps_continue (E.ct σ κ ρ l o r (by rw [hc]; exact q))
theorem ws_expr {e : Expr} (h : WE Y ρ c e fun _ c' => Z.nx ρ c') (hs : swapsWith e none pos.line Y.X.env = pure false := by rfl) : WS Y n0 ρ c (.Expr e pos) Z := fun κ0 κ σ h0 l hc o r De E =>
  PS.w (ps_expr pe_w hs) (h.bind hc o r (E.gox l r) fun v w κ1 l1 o1 r1 g1 rw1 q => E.nx σ κ1 ρ (l.trans l1) o1 r1 q)
theorem ws_ret {e : Expr} (h : WE Y ρ c e Z.rt) : WS Y n0 ρ c (.Return (some e) pos) Z := fun κ0 κ σ h0 l hc o r De E =>
  PS.w (ps_ret pe_w) (h.bind hc o r (E.gox l r) fun v w κ1 l1 o1 r1 g1 rw1 q => E.rt v w κ1 (l.trans l1) o1 rw1 q)
theorem ws_retN (q : Z.rt (.im .non) c) : WS Y n0 ρ c (.Return none pos) Z := fun κ0 κ σ h0 l hc o r De E => PS.w ps_retN (E.rt .non (.im .non) κ l o rfl (by rw [hc]; exact q))
theorem ws_if {t : Expr} {a b : List Stmt} (h : WT Y ρ c t fun k c1 => if k = true then WSs Y n0 ρ c1 a Z else WSs Y n0 ρ c1 b Z) : WS Y n0 ρ c (.If t a b pos) Z := fun κ0 κ σ h0 l hc o r De E =>
  PS.w (ps_if pt_w pss_w pss_w) (h.bind hc o r (E.gox l r) fun k κ1 l1 o1 r1 g1 q => by
    cases k with
    | true => exact q κ0 κ1 σ h0 (l.trans l1) rfl o1 r1 De E
    | false => exact q κ0 κ1 σ h0 (l.trans l1) rfl o1 r1 De E)
theorem ws_set {i : Nat} {x : Str} {e : Expr} {pos' : Pos} (hN : Y.X.N.Nodup) (hi : Y.X.N.idxOf? x = some i) (h : WE Y ρ c e fun w c' => Z.nx (ρ.set i (some w)) c') (hx : Loc Y.X.env.scope x := by first | exact Or.inl rfl | exact Or.inr rfl)
    (hs : swapsWith e (some (.Name x pos')) pos.line Y.X.env = pure false := by rfl) (hf : Y.X.fn x = true ∨ Y.X.env.scope.names.lookup x = some .local := by first | exact .inl rfl | exact .inr rfl) : WS Y n0 ρ c (.Assign [.Name x pos'] e pos) Z := fun κ0 κ σ h0 l hc o r De E =>
  PS.w (ps_set hN (ix_of hi) hx pe_w hs hf) (h.bind hc o r (E.gox l r) fun v w κ1 l1 o1 r1 g1 rw1 q => E.nx _ κ1 _ (l.trans l1) o1 (r1.set rw1) q)
theorem ws_aug {i : Nat} {x : Str} {e : Expr} {op : Operator} {pos' : Pos} {w0 : W} (hN : Y.X.N.Nodup) (hi : Y.X.N.idxOf? x = some i) (hr : ρ[i]? = some (some w0)) (h : WE Y ρ c e fun w c' => WO Y (inplaceOp op) w0 w c' fun w2 c2 => Z.nx (ρ.set i (some w2)) c2)
    (hx : Loc Y.X.env.scope x := by first | exact Or.inl rfl | exact Or.inr rfl) (hf : Y.X.fn x = true ∨ Y.X.env.scope.names.lookup x = some .local := by first | exact .inl rfl | exact .inr rfl) : WS Y n0 ρ c (.AugAssign (.Name x pos') op e pos) Z := fun κ0 κ σ h0 l hc o r De E => by
  obtain ⟨v0, g1, g2⟩ := r.at_ i w0 hr
  refine PS.w (ps_aug hN (ix_of hi) hx pe_w (op_w (f := inplaceOp op)) hf) ⟨v0, g1, ?_⟩
  exact h.bind hc o r (E.gox l r) fun v w κ1 l1 o1 r1 gg rw1 q => q κ1 v0 v rfl o1 (g2.le l1) rw1 _ fun v2 w2 κ2 l2 o2 rw2 q2 => E.nx _ κ2 _ ((l.trans l1).trans l2) o2 ((r1.le l2).set rw2) q2
/-! ### targets: a name; names in a tuple -/
inductive Tgt where
  | nm (i : Nat) | tp (is : List Nat)
def gNames : List Nat → TGs
  | [] => gNil
  | i :: r => gCons (gName i) (gNames r)
def Tgt.g (K : PySem.W.Frag) : Tgt → TG
  | .nm i => gName i
  | .tp is => gTup K is.length (gNames is)
def Tgt.slots : Tgt → List Nat
  | .nm i => [i]
  | .tp is => is
def setsW (ρ : Ρ) : List Nat → List D → Ρ
  | i :: is, d :: ds => setsW (ρ.set i (some (.im d))) is ds
  | _, _ => ρ
def setsV (σ : L2.St) : List Nat → List V → L2.St
  | i :: is, d :: ds => setsV (σ.set i (some d)) is ds
  | _, _ => σ
/-- what d must be to be taken apart so -/
def Tgt.fits : Tgt → D → Prop
  | .nm _, _ => True
  | .tp is, d => ∃ ds, d = .tup ds ∧ ds.length = is.length
def Tgt.bind (ρ : Ρ) : Tgt → D → Ρ
  | .nm i, d => ρ.set i (some (.im d))
  | .tp is, .tup ds => setsW ρ is ds
  | .tp _, _ => ρ
theorem gNames_go {κ : Wd} {Q : L2.St → Hp → Prop} {H : Hp} : ∀ {is : List Nat} {ds : List D} {vs : List V} {σ : L2.St} {ρ : Ρ}, ds.length = is.length → Rps Y.X.K κ.I ds vs → REnv Y.X.K κ σ ρ →
    (∀ σ', σ' = setsV σ is vs → REnv Y.X.K κ σ' (setsW ρ is ds) → Q σ' H) → gNames is vs σ H Q
  | [], [], vs, σ, ρ, _, h, r, q => by
    have : vs = [] := h
    subst this
    exact ⟨rfl, q σ rfl r⟩
  | i :: is, d :: ds, _, σ, ρ, e, ⟨v, rr, h1, h2, h3⟩, r, q => by
    subst h1
    exact ⟨v, rr, rfl, gNames_go (by simpa using e) h3 (r.set (show RW Y.X.K κ.I κ.th (.im d) v from h2)) q⟩
  | [], _ :: _, _, _, _, e, _, _, _ => by simp at e
  | _ :: _, [], _, _, _, e, _, _, _ => by simp at e
theorem wipe_set {σ : L2.St} {i : Nat} {v : Option V} : ∀ {vs : List Nat}, i ∈ vs → L2.wipe (σ.set i v) vs = L2.wipe σ vs
  | [], h => by simp at h
  | j :: js, h => by
    show (L2.wipe (σ.set i v) js).set j none = (L2.wipe σ js).set j none
    by_cases hm : i ∈ js
    · rw [wipe_set hm]
    · have e : i = j := by
        rcases List.mem_cons.mp h with h | h
        · exact h
        · exact absurd h hm
      subst e
      clear h hm
      induction js with
      | nil => show (σ.set i v).set i none = σ.set i none; rw [List.set_set]
      | cons k ks ih =>
        show ((L2.wipe (σ.set i v) ks).set k none).set i none = ((L2.wipe σ ks).set k none).set i none
        by_cases hk : k = i
        · subst hk; rw [List.set_set, List.set_set]; exact ih
        · rw [List.set_comm _ _ hk, ih, List.set_comm _ _ hk]
theorem wipe_wipe {σ : L2.St} (vs : List Nat) : L2.wipe (L2.wipe σ vs) vs = L2.wipe σ vs := by
  have gen : ∀ ws : List Nat, (∀ i ∈ ws, i ∈ vs) → L2.wipe (L2.wipe σ ws) vs = L2.wipe σ vs := by
    intro ws
    induction ws with
    | nil => intro _; rfl
    | cons w ws ih =>
      intro h
      show L2.wipe ((L2.wipe σ ws).set w none) vs = _
      rw [wipe_set (h w List.mem_cons_self)]
      exact ih fun i hi => h i (List.mem_cons_of_mem _ hi)
  exact gen vs fun _ h => h
theorem wipe_sets {vs : List Nat} : ∀ {is : List Nat} {xs : List V} {σ : L2.St}, (∀ i ∈ is, i ∈ vs) → L2.wipe (setsV σ is xs) vs = L2.wipe σ vs
  | [], _, _, _ => rfl
  | _ :: _, [], _, _ => rfl
  | i :: is, x :: xs, σ, h => by
    show L2.wipe (setsV (σ.set i (some x)) is xs) vs = _
    rw [wipe_sets fun j hj => h j (List.mem_cons_of_mem _ hj), wipe_set (h i List.mem_cons_self)]
theorem Tgt.go {κ : Wd} {t : Tgt} {d : D} {v : V} {σ : L2.St} {Q : L2.St → Hp → Prop} (hf : t.fits d) (o : κ.Ok Y.X.K) (h : Rp Y.X.K κ.I d v) (r : REnv Y.X.K κ σ ρ)
    (q : ∀ σ', (∀ vs, (∀ i ∈ t.slots, i ∈ vs) → L2.wipe σ' vs = L2.wipe σ vs) → REnv Y.X.K κ σ' (t.bind ρ d) → Q σ' κ.H) : t.g Y.X.K v σ κ.H Q := by
  cases t with
  | nm i => exact q _ (fun vs hv => wipe_set (hv i List.mem_cons_self)) (r.set (show RW Y.X.K κ.I κ.th (.im d) v from h))
  | tp is =>
    obtain ⟨ds, rfl, hl⟩ := hf
    obtain ⟨a, vs, rfl, h1, h2⟩ := h
    exact ⟨a, vs, rfl, ex_t o.ex h1, by rw [h2.len, hl], gNames_go hl h2 r fun σ' e r' => q σ' (fun ws hw => by rw [e]; exact wipe_sets hw) r'⟩
/-! ### what is walked -/
def wI (X : Cx) (tg iter : Expr) : TI := fun σ H R => ∀ (pins : List (Addr × Obj)) (s : Shared), Inv X pins σ H s →
    wpAny (model X.prog X.w) X.A (eval iter X.env) (fun v s1 => wpAny (model X.prog X.w) X.A (pyIter v) (PIE X pins σ tg R) X.xe s1) X.xe s
theorem pi_w {X : Cx} {tg iter : Expr} : PI X tg iter (wI X tg iter) := ⟨fun pins s σ H R I h => h pins s I⟩
theorem PI.w {X : Cx} {tg iter : Expr} {wi : TI} {σ : L2.St} {H : Hp} {R : It → Hp → Prop} (h : PI X tg iter wi) (q : wi σ H R) : wI X tg iter σ H R := fun pins s I => h.run pins s σ H R I q
/-- the iterator gives these data, in any later world -/
structure ItOk (K : PySem.W.Frag) (J : It) (ds : List D) (κ1 : Wd) : Prop where
  go : ∀ κ' : Wd, Ex κ1.I κ'.I → κ'.Ok K → ∀ i, i < ds.length → J.go i κ'.H
  stop : ∀ κ' : Wd, Ex κ1.I κ'.I → κ'.Ok K → J.stop ds.length κ'.H
  yld : ∀ κ' : Wd, Ex κ1.I κ'.I → κ'.Ok K → ∀ i d x H', ds[i]? = some d → J.yld i κ'.H x H' → ∃ κ2, κ'.le κ2 ∧ κ2.Ok K ∧ κ2.H = H' ∧ κ2.c = κ'.c ∧ Rp K κ2.I d x
def WI (Y : Cy) (ρ : Ρ) (c : List Cell) (tg iter : Expr) (Q : List D → List Cell → Prop) : Prop :=
  ∀ κ σ, κ.c = c → κ.Ok Y.X.K → REnv Y.X.K κ σ ρ → GoX Y κ σ ρ → ∀ Q' : It → Hp → Prop, (∀ J ds κ1, κ.le κ1 → κ1.Ok Y.X.K → ItOk Y.X.K J ds κ1 → Q ds κ1.c → Q' J κ1.H) → wI Y.X tg iter σ κ.H Q'
theorem itok_list {K : PySem.W.Frag} {κ1 : Wd} {a : Addr} {vs : List V} {ds : List D} (h : κ1.I a = some (.lst vs)) (r : Rps K κ1.I ds vs) : ItOk K (Itl K a) ds κ1 := by
  have hl := r.len
  have sq : ∀ κ' : Wd, Ex κ1.I κ'.I → κ'.Ok K → SqL K κ'.H a vs := fun κ' l o => SqL.of (o.ex _ _ (l _ _ h))
  refine ⟨fun κ' l o i hi => ?_, fun κ' l o => ?_, fun κ' l o i d x H' hd y => ?_⟩
  · exact walk_list.goes i _ (by rw [hl]; exact hi) (sq κ' l o)
  · rw [← hl]; exact walk_list.stops _ (sq κ' l o)
  · obtain ⟨rfl, hx⟩ := y
    obtain ⟨v, g1, g2⟩ := r.get hd
    have := hx vs (sq κ' l o)
    rw [g1] at this; cases this
    exact ⟨κ', .refl _, o, rfl, rfl, Rp.ex l d g2⟩
theorem itok_scr {K : PySem.W.Frag} {κ1 : Wd} {a : Addr} {ns : List Int} (h : SqL K κ1.I a (ns.map V.int)) : ItOk K (Itl K a) (ns.map D.int) κ1 := by
  have sq : ∀ κ' : Wd, Ex κ1.I κ'.I → κ'.Ok K → SqL K κ'.H a (ns.map V.int) := fun κ' l o => ex_l (l.trans o.ex) h
  refine ⟨fun κ' l o i hi => ?_, fun κ' l o => ?_, fun κ' l o i d x H' hd y => ?_⟩
  · exact walk_list.goes i _ (by simpa using hi) (sq κ' l o)
  · have := walk_list.stops _ (sq κ' l o)
    simpa using this
  · obtain ⟨rfl, hx⟩ := y
    have := hx _ (sq κ' l o)
    obtain ⟨v, g1, g2⟩ := (Rps.ofInts (K := K) (I := κ'.I) ns).get hd
    rw [g1] at this; cases this
    exact ⟨κ', .refl _, o, rfl, rfl, g2⟩
/-- lo, lo + 1, .. -/
def rangeD (lo : Int) (n : Nat) : List D := (List.range n).map fun i => D.int (lo + (i : Nat))
theorem rangeD_len (lo : Int) (n : Nat) : (rangeD lo n).length = n := by unfold rangeD; simp
theorem rangeD_get {lo : Int} {n i : Nat} {d : D} (h : (rangeD lo n)[i]? = some d) : i < n ∧ d = .int (lo + (i : Nat)) := by
  unfold rangeD at h
  rw [List.getElem?_map] at h
  by_cases hi : i < n
  · rw [List.getElem?_range hi] at h
    exact ⟨hi, by simpa using h.symm⟩
  · rw [List.getElem?_eq_none (by simpa using hi)] at h; cases h
theorem itok_range {K : PySem.W.Frag} {κ1 : Wd} (lo : Int) (n : Nat) : ItOk K (Itr lo n) (rangeD lo n) κ1 := by
  refine ⟨fun κ' l o i hi => ?_, fun κ' l o => ?_, fun κ' l o i d x H' hd y => ?_⟩
  · show i < n; rw [rangeD_len] at hi; exact hi
  · show n ≤ (rangeD lo n).length; rw [rangeD_len]; exact Nat.le_refl _
  · obtain ⟨rfl, rfl⟩ := y
    obtain ⟨_, rfl⟩ := rangeD_get hd
    exact ⟨κ', .refl _, o, rfl, rfl, rfl⟩
theorem wi_seq {tg e : Expr} {Q : List D → List Cell → Prop} (h : WE Y ρ c e fun w c1 => ∃ ds, (w = .im (.lst ds) ∨ ∃ ns, w = .im (.scr ns) ∧ ds = ns.map D.int) ∧ Q ds c1) : WI Y ρ c tg e Q := fun κ σ hc o r g Q' G =>
  PI.w (pi_list pe_w) (h.bind hc o r g fun v w κ1 l1 o1 r1 g1 rw1 ⟨ds, e, q⟩ => by
    rcases e with rfl | ⟨ns, rfl, rfl⟩
    · obtain ⟨a, vs, rfl, h1, h2⟩ := rw1
      exact ⟨a, rfl, ⟨vs, SqL.of (o1.ex _ _ h1)⟩, G _ _ κ1 l1 o1 (itok_list h1 h2) q⟩
    · obtain ⟨a, rfl, h1⟩ := rw1
      exact ⟨a, rfl, ⟨_, ex_l o1.ex h1⟩, G _ _ κ1 l1 o1 (itok_scr h1) q⟩)
theorem wi_range1 {tg a : Expr} {p pos : Pos} {Q : List D → List Cell → Prop} (hg : Gl Y.X "range") (hm : Y.X.mg "range" = none) (h : WE Y ρ c a fun w c1 => ∃ j : Int, w = .im (.int j) ∧ -(2 ^ 62) ≤ j ∧ j < 2 ^ 62 ∧ Q (rangeD 0 j.toNat) c1) (hs : starEach [a] Y.X.env = [(false, eval a Y.X.env)] := by rfl) :
    WI Y ρ c tg (.Call (.Name "range" p) [a] [] pos) Q := fun κ σ hc o r g Q' G =>
  PI.w (pi_range1 hg hm (pa_cons pe_w pa_nil hs) hs) (h.bind hc o r g fun v w κ1 l1 o1 r1 g1 rw1 ⟨j, e, b1, b2, q⟩ => by
    subst e
    exact ⟨j, by rw [show v = .int j from rw1], b1, b2, G _ _ κ1 l1 o1 (itok_range 0 _) q⟩)
/-! ### for -/
theorem ws_for {tg iter : Expr} {body : List Stmt} (t : Tgt) (hcm : Y.X.calm = true) (hg : PG Y.X tg (t.g Y.X.K))
    (h : WI Y ρ c tg iter fun ds c1 => ∃ P : Nat → Ρ → List Cell → Prop, P 0 ρ c1 ∧ (∀ i d ρ' c', ds[i]? = some d → P i ρ' c' → t.fits d ∧ WSs Y c1.length (t.bind ρ' d) c' body { nx := P (i + 1), rt := Z.rt, bk := Z.nx, ct := P (i + 1) }) ∧ ∀ ρ' c', P ds.length ρ' c' → Z.nx ρ' c')
    (hs : ∀ x, foldedSetIterable iter Y.X.env x = pure x := by intro _; rfl) : WS Y n0 ρ c (.For tg iter body [] pos) Z := fun κ0 κ σ h0 l hc o r De E => by
  refine PS.w (ps_for Y.po hcm pi_w hg pss_w hs) (h κ σ hc o r (E.gox l r) _ fun J ds κ1 l1 o1 it ⟨P, p0, turn, fin⟩ => ?_)
  have hlen : κ1.th.length = κ1.c.length := o1.len
  refine ⟨fun i m σ' H' => m = ds.length - i ∧ i ≤ ds.length ∧ ∃ κ' ρ', κ1.le κ' ∧ κ'.Ok Y.X.K ∧ REnv Y.X.K κ' σ' ρ' ∧ P i ρ' κ'.c ∧ κ'.H = H', ⟨ds.length, by simp, Nat.zero_le _, κ1, ρ, .refl _, o1, r.le l1, p0, rfl⟩, ?_⟩
  rintro i m σ' H' ⟨rfl, hi, κ', ρ', l', o', r', p, rfl⟩
  by_cases hlt : i < ds.length
  · have hd : ds[i]? = some ds[i] := List.getElem?_eq_getElem hlt
    refine .inr ⟨it.go κ' l'.ii o' i hlt, fun σ2 H2 => ∃ κ2 ρ2, κ1.le κ2 ∧ κ2.Ok Y.X.K ∧ REnv Y.X.K κ2 σ2 ρ2 ∧ P (i + 1) ρ2 κ2.c ∧ κ2.H = H2, fun σ2 H2 ⟨κ2, ρ2, a1, a2, a3, a4, a5⟩ => ⟨ds.length - (i + 1), by omega, rfl, hlt, κ2, ρ2, a1, a2, a3, a4, a5⟩, fun x H2 y => ?_⟩
    obtain ⟨κ2, l2, o2, rfl, ec, rp⟩ := it.yld κ' l'.ii o' i _ x H2 hd y
    obtain ⟨hf, hb⟩ := turn i _ ρ' κ2.c hd (by rw [ec]; exact p)
    refine Tgt.go hf o2 rp (r'.le l2) fun σ3 _ r3 => ?_
    exact hb κ1 κ2 σ3 hlen (l'.trans l2) rfl o2 r3 _ ⟨fun σ4 κ4 ρ4 l4 o4 r4 q => ⟨κ4, ρ4, l4, o4, r4, q, rfl⟩, fun v w κ4 l4 o4 rw4 q => E.rt v w κ4 (l.trans (l1.trans l4)) o4 rw4 q, fun σ4 κ4 ρ4 l4 o4 r4 q => E.nx σ4 κ4 ρ4 (l.trans (l1.trans l4)) o4 r4 q,
      fun σ4 κ4 ρ4 l4 o4 r4 q => ⟨κ4, ρ4, l4, o4, r4, q, rfl⟩, fun x' C d' σ4 κ4 ρ4 l4 o4 r4 rx q => E.ex x' C d' σ4 κ4 ρ4 (l.trans (l1.trans l4)) o4 r4 rx q⟩
  · have e : i = ds.length := by omega
    subst e
    exact .inl ⟨it.stop κ' l'.ii o', E.nx σ' κ' ρ' (l.trans (l1.trans l')) o' r' (fin ρ' κ'.c p)⟩
end
end WL
/-! Comprehensions, defs and their calls over plain data. -/
namespace WL
open PySem PySem.Spec PyProof.Rows L2
/-! ### an object beside the world: a list being made -/
structure Side (κ : Wd) (a : Addr) (u : HO) : Prop where
  i : κ.I a = none
  t : a ∉ κ.th
  h : κ.H a = some u
theorem Side.le {κ κ' : Wd} {a : Addr} {u : HO} (s : Side κ a u) (l : κ.le κ') : Side κ' a u where
  i := l.nw a (by rw [s.h]; intro z; cases z) s.i
  t := fun m => by
    have := l.nt a m s.t
    rw [s.h] at this; cases this
  h := l.fr a u s.h s.t
section
variable {K : PySem.W.Frag} {κ : Wd}
theorem Side.new (o : κ.Ok K) {p : Addr} {u : HO} (hp : κ.H p = none) : Side ⟨κ.I, upd κ.H p u, κ.th, κ.c⟩ p u where
  i := by
    show κ.I p = none
    cases q : κ.I p with
    | none => rfl
    | some x => rw [o.ex _ _ q] at hp; cases hp
  t := fun m => o.thH m hp
  h := upd_same
/-- the object beside is written -/
theorem Wd.Ok.side (o : κ.Ok K) {p : Addr} {u u' : HO} (s : Side κ p u) : Wd.Ok K ⟨κ.I, upd κ.H p u', κ.th, κ.c⟩ ∧ Side ⟨κ.I, upd κ.H p u', κ.th, κ.c⟩ p u' := by
  refine ⟨⟨fun a x h => ?_, o.len, o.nd, o.off, fun n a k h1 h2 => ?_⟩, ⟨s.i, s.t, upd_same⟩⟩
  · show upd κ.H p u' a = some x
    have : a ≠ p := fun z => by subst z; rw [s.i] at h; cases h
    rw [upd_ne this]; exact o.ex _ _ h
  · have ha : a ≠ p := fun z => by subst z; exact s.t (List.mem_of_getElem? h1)
    have q : upd κ.H p u' a = κ.H a := upd_ne ha
    have ck := o.cl n a k h1 h2
    cases k with
    | lst l => obtain ⟨vs, g1, g2⟩ := ck; exact ⟨vs, q.trans g1, g2⟩
    | dic ks l => obtain ⟨vs, g1, g2⟩ := ck; exact ⟨vs, q.trans g1, g2⟩
    | ins C ns ws => obtain ⟨dx, vs, g1, g2⟩ := ck; exact ⟨dx, vs, q.trans g1, g2⟩
    | xo R => obtain ⟨x, g1, g2⟩ := ck; exact ⟨x, q.trans g1, g2⟩
    | xw R ws => obtain ⟨x, vs, g1, g2⟩ := ck; exact ⟨x, vs, q.trans g1, g2⟩
theorem Wd.le.side {κ0 : Wd} (l : κ0.le κ) {p : Addr} {u u' : HO} (s : Side κ p u) (h0 : κ0.H p = none) : κ0.le ⟨κ.I, upd κ.H p u', κ.th, κ.c⟩ where
  ii := l.ii
  th := l.th
  fr := fun a x h n => by
    show upd κ.H p u' a = some x
    rw [upd_ne (ne_of_none h h0)]; exact l.fr a x h n
  hd := fun a h => by
    show upd κ.H p u' a ≠ none
    have : a ≠ p := fun z => by subst z; exact h h0
    rw [upd_ne this]; exact l.hd a h
  nw := l.nw
  nt := l.nt
/-- the object beside becomes data -/
theorem Wd.Ok.adopt (o : κ.Ok K) {p : Addr} {u : HO} (s : Side κ p u) : Wd.Ok K ⟨upd κ.I p u, κ.H, κ.th, κ.c⟩ ∧ Ex κ.I (upd κ.I p u) := by
  have ee : Ex κ.I (upd κ.I p u) := Ex.new s.i
  refine ⟨⟨fun a x h => ?_, o.len, o.nd, fun a h => ?_, fun n a k h1 h2 => ?_⟩, ee⟩
  · have h : upd κ.I p u a = some x := h
    by_cases e : a = p
    · subst e; rw [upd_same] at h; cases h; exact s.h
    · rw [upd_ne e] at h; exact o.ex _ _ h
  · show upd κ.I p u a = none
    have : a ≠ p := fun z => by subst z; exact s.t h
    rw [upd_ne this]; exact o.off a h
  · have ck := o.cl n a k h1 h2
    cases k with
    | lst l => obtain ⟨vs, g1, g2⟩ := ck; exact ⟨vs, g1, Rps.ex ee l g2⟩
    | dic ks l => obtain ⟨vs, g1, g2, g3⟩ := ck; exact ⟨vs, g1, g2, Rps.ex ee l g3⟩
    | ins C ns ws =>
      obtain ⟨dx, vs, g1, g2, g3⟩ := ck
      exact ⟨dx, vs, g1, g2, RWs.mono ee (fun _ _ h => h) g3⟩
    | xo R => obtain ⟨x, g1, g2⟩ := ck; exact ⟨x, g1, fun I' e => g2 I' (ee.trans e)⟩
    | xw R ws => obtain ⟨x, vs, g1, g2, g3⟩ := ck; exact ⟨x, vs, g1, RWs.mono ee (fun _ _ h => h) g2, fun I' e => g3 I' (ee.trans e)⟩
end
/-! ### what remains when local cells go -/
def W.below (n : Nat) : W → Bool
  | .im _ => true
  | .ce m => decide (m < n)
def Cell.below (n : Nat) : Cell → Bool
  | .lst _ => true
  | .dic _ _ => true
  | .ins _ _ ws => ws.all (W.below n)
  | .xo _ => true
  | .xw _ ws => ws.all (W.below n)
def clo (n : Nat) (c : List Cell) : Bool := (c.take n).all (Cell.below n)
section
variable {K : PySem.W.Frag} {κ : Wd}
theorem RW.take {I : Hp} {th : List Addr} {n : Nat} : ∀ {w : W} {v : V}, w.below n = true → RW K I th w v → RW K I (th.take n) w v
  | .im _, _, _, h => h
  | .ce m, _, b, ⟨a, h1, h2⟩ => ⟨a, by rw [List.getElem?_take, if_pos (of_decide_eq_true b)]; exact h1, h2⟩
theorem RWs.take {I : Hp} {th : List Addr} {n : Nat} : ∀ {ws : List W} {vs : List V}, ws.all (W.below n) = true → RWs K I th ws vs → RWs K I (th.take n) ws vs
  | [], _, _, h => h
  | w :: ws, _, b, ⟨v, r, h1, h2, h3⟩ => by
    rw [List.all_cons, Bool.and_eq_true] at b
    exact ⟨v, r, h1, h2.take b.1, RWs.take b.2 h3⟩
theorem Wd.Ok.take (o : κ.Ok K) {n : Nat} (h : clo n κ.c = true) : Wd.Ok K ⟨κ.I, κ.H, κ.th.take n, κ.c.take n⟩ := by
  refine ⟨o.ex, ?_, o.nd.sublist (List.take_sublist _ _), fun a m => o.off a (List.mem_of_mem_take m), fun m a k h1 h2 => ?_⟩
  · show (κ.th.take n).length = (κ.c.take n).length
    rw [List.length_take, List.length_take, o.len]
  · have g1 : (κ.th.take n)[m]? = some a := h1
    have g2 : (κ.c.take n)[m]? = some k := h2
    have bk : Cell.below n k = true := List.all_eq_true.mp h k (List.mem_of_getElem? g2)
    rw [List.getElem?_take] at g1 g2
    split at g1
    · rename_i hm
      rw [if_pos hm] at g2
      have ck := o.cl m a k g1 g2
      cases k with
      | lst l => exact ck
      | dic ks l => exact ck
      | xo R => exact ck
      | xw R ws => obtain ⟨x, vs, q1, q2, q3⟩ := ck; exact ⟨x, vs, q1, q2.take bk, q3⟩
      | ins C ns ws => obtain ⟨dx, vs, q1, q2, q3⟩ := ck; exact ⟨dx, vs, q1, q2, q3.take bk⟩
    · cases g1
theorem Wd.le.take {κ0 : Wd} (l : κ0.le κ) : κ0.le ⟨κ.I, κ.H, κ.th.take κ0.th.length, κ.c.take κ0.th.length⟩ := ⟨l.ii, fun n a h => by
  show (κ.th.take κ0.th.length)[n]? = some a
  rw [List.getElem?_take, if_pos (List.getElem?_eq_some_iff.mp h).1]; exact l.th n a h, l.fr, l.hd, l.nw, fun a h n => l.nt a (List.mem_of_mem_take h) n⟩
/-- a cell past n0 is beside what remains -/
theorem Wd.Ok.past {κ0 : Wd} (o : κ.Ok K) {n : Nat} {a : Addr} {u : HO} (hn : κ0.th.length ≤ n) (h : κ.th[n]? = some a) (hu : κ.H a = some u) : Side ⟨κ.I, κ.H, κ.th.take κ0.th.length, κ.c.take κ0.th.length⟩ a u where
  i := o.off a (List.mem_of_getElem? h)
  t := fun m => by
    obtain ⟨j, hj, e⟩ := List.getElem_of_mem m
    have hj' : j < (κ.th.take κ0.th.length).length := hj
    rw [List.length_take] at hj'
    have e2 : (κ.th.take κ0.th.length)[j]? = some a := by rw [List.getElem?_eq_getElem hj]; exact congrArg some e
    rw [List.getElem?_take, if_pos (by omega)] at e2
    obtain ⟨l1, e3⟩ := List.getElem?_eq_some_iff.mp e2
    obtain ⟨l2, e4⟩ := List.getElem?_eq_some_iff.mp h
    have := (List.getElem_inj o.nd).mp (e3.trans e4.symm)
    omega
  h := hu
theorem Wd.le.newer {κ0 : Wd} (l : κ0.le κ) (o : κ.Ok K) {n : Nat} {a : Addr} (hn : κ0.th.length ≤ n) (h : κ.th[n]? = some a) : κ0.H a = none := by
  refine l.nt a (List.mem_of_getElem? h) fun m => ?_
  obtain ⟨j, hj, e⟩ := List.getElem_of_mem m
  have e2 : κ0.th[j]? = some a := by rw [List.getElem?_eq_getElem hj, e]
  have e3 := l.th j a e2
  obtain ⟨l1, e4⟩ := List.getElem?_eq_some_iff.mp e3
  obtain ⟨l2, e5⟩ := List.getElem?_eq_some_iff.mp h
  have := (List.getElem_inj o.nd).mp (e4.trans e5.symm)
  omega
theorem Wd.le.adopt {κ0 : Wd} (l : κ0.le κ) {p : Addr} {u : HO} (s : Side κ p u) (h0 : κ0.H p = none) : κ0.le ⟨upd κ.I p u, κ.H, κ.th, κ.c⟩ where
  ii := l.ii.trans (Ex.new s.i)
  th := l.th
  fr := l.fr
  hd := l.hd
  nw := fun a h n => by
    show upd κ.I p u a = none
    have : a ≠ p := fun z => by subst z; exact h h0
    rw [upd_ne this]; exact l.nw a h n
  nt := l.nt
/-- the object beside becomes a cell -/
theorem Wd.Ok.enter (o : κ.Ok K) {p : Addr} {u : HO} {k : Cell} (s : Side κ p u) (hk : CellOk K κ.I κ.H (κ.th ++ [p]) p k) : Wd.Ok K ⟨κ.I, κ.H, κ.th ++ [p], κ.c ++ [k]⟩ where
  ex := o.ex
  len := by
    show (κ.th ++ [p]).length = (κ.c ++ [k]).length
    rw [List.length_append, List.length_append, o.len]; rfl
  nd := by
    show (κ.th ++ [p]).Nodup
    refine List.nodup_append.mpr ⟨o.nd, by simp, fun a ha b hb => ?_⟩
    have : b = p := by simpa using hb
    subst this
    intro z; subst z; exact s.t ha
  off := fun a h => by
    rcases List.mem_append.mp h with h | h
    · exact o.off a h
    · have : a = p := by simpa using h
      subst this; exact s.i
  cl := fun n a k' h1 h2 => by
    have g1 : (κ.th ++ [p])[n]? = some a := h1
    have g2 : (κ.c ++ [k])[n]? = some k' := h2
    clear h1 h2
    by_cases hn : n < κ.th.length
    · rw [List.getElem?_append_left hn] at g1
      rw [List.getElem?_append_left (by rw [← o.len]; exact hn)] at g2
      have ck := o.cl n a k' g1 g2
      cases k' with
      | lst l => exact ck
      | dic ks l => exact ck
      | xo R => exact ck
      | xw R ws =>
        obtain ⟨x, vs, q1, q2, q3⟩ := ck
        exact ⟨x, vs, q1, RWs.mono (Ex.refl _) (fun m b hb => by rw [List.getElem?_append_left (List.getElem?_eq_some_iff.mp hb).1]; exact hb) q2, q3⟩
      | ins C ns ws =>
        obtain ⟨dx, vs, q1, q2, q3⟩ := ck
        exact ⟨dx, vs, q1, q2, RWs.mono (Ex.refl _) (fun m b hb => by rw [List.getElem?_append_left (List.getElem?_eq_some_iff.mp hb).1]; exact hb) q3⟩
    · have hl := (List.getElem?_eq_some_iff.mp g1).1
      rw [List.length_append, List.length_singleton] at hl
      have e : n = κ.th.length := by omega
      subst e
      rw [List.getElem?_append_right (Nat.le_refl _), Nat.sub_self] at g1
      rw [List.getElem?_append_right (by rw [o.len]; exact Nat.le_refl _), o.len, Nat.sub_self] at g2
      have : p = a := by simpa using g1
      subst this
      have : k = k' := by simpa using g2
      subst this
      exact hk
theorem Wd.le.enter {κ0 : Wd} (l : κ0.le κ) {p : Addr} {u : HO} {k : Cell} (s : Side κ p u) (h0 : κ0.H p = none) : κ0.le ⟨κ.I, κ.H, κ.th ++ [p], κ.c ++ [k]⟩ where
  ii := l.ii
  th := fun n a h => by
    show (κ.th ++ [p])[n]? = some a
    have g := l.th n a h
    rw [List.getElem?_append_left (List.getElem?_eq_some_iff.mp g).1]; exact g
  fr := l.fr
  hd := l.hd
  nw := l.nw
  nt := fun a h n => by
    rcases List.mem_append.mp h with h | h
    · exact l.nt a h n
    · have : a = p := by simpa using h
      subst this; exact h0
end
/-! ### comprehensions -/
def wTs (X : Cx) (ifs : List Expr) : TT := fun σ H Q => ∀ (pins : List (Addr × Obj)) (s : Shared), Inv X pins σ H s →
    wpAny (model X.prog X.w) X.A (forIn ifs true fun c r => if r = true then do let ok ← isTrue c X.env (eval c X.env); pure (ForInStep.yield ok) else pure (ForInStep.yield r)) (TP X pins σ Q) X.xe s
theorem PTs.w {X : Cx} {ifs : List Expr} {t : TT} {σ : L2.St} {H : Hp} {Q : Bool → Hp → Prop} (h : PTs X ifs t) (q : t σ H Q) : wTs X ifs σ H Q := fun pins s I => h.run pins s σ H Q I q
/-- where a block stands -/
structure Blk where
  s : Shared
  H : Hp
  C : Addr
  cl : List (Str × Addr)
  fp : List Addr
def Cy.blk (Y : Cy) (scope : Scope) (b : Blk) : Cy where
  X := Y.X.blk b.s b.H scope (compEnvC scope b.cl b.C Y.X.env) b.fp
  Wx := fun _ _ _ _ => False
  tk := takes0
  po := PassesOwn.never
  Qx := fun _ _ _ => False
def WTs (Y : Cy) (ρ : Ρ) (c : List Cell) (ifs : List Expr) (Q : Bool → List Cell → Prop) : Prop := ∀ κ σ, κ.c = c → κ.Ok Y.X.K → REnv Y.X.K κ σ ρ → GoX Y κ σ ρ → ∀ Q', GoT Y κ Q' Q → wTs Y.X ifs σ κ.H Q'
section
variable {Y : Cy} {ρ : Ρ} {c : List Cell} {Q : KQ} {QT : Bool → List Cell → Prop}
theorem wts_one {e : Expr} (h : WT Y ρ c e QT) : WTs Y ρ c [e] QT := fun κ σ hc o r g Q' G => PTs.w (pts_one pt_w) (h κ σ hc o r g Q' G)
theorem GoX.blk {scope : Scope} {b : Blk} {κ : Wd} {σ : L2.St} {ρ : Ρ} : GoX (Y.blk scope b) κ σ ρ := ⟨fun _ _ _ _ _ _ _ q => q.elim⟩
/-- what a comprehension asks -/
def LcAsk (Y : Cy) (ρ : Ρ) (scope : Scope) (vs : List Nat) (t : Tgt) (ifs : List Expr) (elt : Expr) (Q : List D → List Cell → Prop) (ds : List D) (c1 : List Cell) : Prop :=
  ∃ P : Nat → List D → List Cell → Prop, P 0 [] c1 ∧
    (∀ i d acc c', ds[i]? = some d → P i acc c' → acc.length < 1000000 ∧ t.fits d ∧ ∀ b : Blk, WTs (Y.blk scope b) (t.bind (wipeW ρ vs) d) c' ifs fun k c2 =>
      if k = true then ∀ b : Blk, WE (Y.blk scope b) (t.bind (wipeW ρ vs) d) c2 elt fun w c3 => ∃ e, w = .im e ∧ P (i + 1) (acc ++ [e]) c3 else P (i + 1) acc c2) ∧
    ∀ acc c', P ds.length acc c' → Q acc c'
theorem lc_sem {elt tg iter : Expr} {ifs : List Expr} {scope : Scope} {vs : List Nat} {t : Tgt} {QL : List D → List Cell → Prop} {κ : Wd} {σ : L2.St} (hv : ∀ i ∈ t.slots, i ∈ vs)
    (h : WI Y ρ c tg iter (LcAsk Y ρ scope vs t ifs elt QL)) (hc : κ.c = c) (o : κ.Ok Y.X.K) (r : REnv Y.X.K κ σ ρ) (g : GoX Y κ σ ρ) {Q' : VK}
    (G : ∀ p xs l κ', κ.le κ' → κ'.Ok Y.X.K → Side κ' p (.lst xs) → κ.H p = none → Rps Y.X.K κ'.I l xs → QL l κ'.c → Q' (.ref p) κ'.H) :
    tLc (wI Y.X tg iter) (t.g Y.X.K) (fun σ H Q => ∀ b : Blk, wTs (Y.blk scope b).X ifs σ H Q) (fun σ H Q => ∀ b : Blk, wE (Y.blk scope b).X elt σ H Q) vs σ κ.H Q' := by
  refine h κ σ hc o r g _ fun J ds κ1 l1 o1 it ⟨P, p0, turn, fin⟩ => fun Dl hD => ?_
  have hD0 : κ.H Dl = none := by
    cases q : κ.H Dl with
    | none => rfl
    | some x => exact absurd hD (l1.hd Dl (by rw [q]; intro z; cases z))
  refine ⟨fun i m H' => m = ds.length - i ∧ i ≤ ds.length ∧ ∃ κ' acc xs, κ1.le κ' ∧ κ'.Ok Y.X.K ∧ Side κ' Dl (.lst xs) ∧ Rps Y.X.K κ'.I acc xs ∧ P i acc κ'.c ∧ κ'.H = H',
    ⟨ds.length, by simp, Nat.zero_le _, ⟨κ1.I, upd κ1.H Dl (.lst []), κ1.th, κ1.c⟩, [], [], Wd.aux_le hD, o1.aux hD, Side.new o1 hD, Rps.nil, p0, rfl⟩, ?_⟩
  rintro i m H' ⟨rfl, hi, κ', acc, xs, l', o', s', ra, p, rfl⟩
  by_cases hlt : i < ds.length
  · have hd : ds[i]? = some ds[i] := List.getElem?_eq_getElem hlt
    refine .inr ⟨it.go κ' l'.ii o' i hlt, fun H2 => ∃ κ2 acc xs, κ1.le κ2 ∧ κ2.Ok Y.X.K ∧ Side κ2 Dl (.lst xs) ∧ Rps Y.X.K κ2.I acc xs ∧ P (i + 1) acc κ2.c ∧ κ2.H = H2, fun H2 ⟨κ2, acc2, xs2, a1, a2, a3, a4, a5, a6⟩ => ⟨ds.length - (i + 1), by omega, rfl, hlt, κ2, acc2, xs2, a1, a2, a3, a4, a5, a6⟩, fun x H2 y => ?_⟩
    obtain ⟨κ2, l2, o2, rfl, ec, rp⟩ := it.yld κ' l'.ii o' i _ x H2 hd y
    obtain ⟨hz, hf, hb⟩ := turn i _ acc κ2.c hd (by rw [ec]; exact p)
    have r2 : REnv Y.X.K κ2 (L2.wipe σ vs) (wipeW ρ vs) := (r.le ((l1.trans l').trans l2)).wipe vs
    refine Tgt.go hf o2 rp r2 fun σ3 hw r3 => ⟨by rw [hw vs hv, wipe_wipe], fun b => ?_⟩
    refine hb b κ2 σ3 rfl o2 r3 GoX.blk _ fun k κ3 l3 o3 q => ?_
    cases k with
    | true =>
      intro b2
      refine q b2 κ3 σ3 rfl o3 (r3.le l3) GoX.blk _ fun v w κ4 l4 o4 rw4 ⟨e, ew, q4⟩ => ?_
      subst ew
      have s4 := ((s'.le l2).le l3).le l4
      refine ⟨xs, s4.h, by rw [ra.len]; exact Nat.lt_of_lt_of_le hz (by decide), ?_⟩
      obtain ⟨o5, s5⟩ := o4.side (u' := .lst (xs ++ [v])) s4
      exact ⟨⟨κ4.I, upd κ4.H Dl (.lst (xs ++ [v])), κ4.th, κ4.c⟩, acc ++ [e], xs ++ [v], Wd.le.side (((l'.trans l2).trans l3).trans l4) s4 hD, o5, s5, Rps.snoc (Rps.ex ((l2.trans l3).trans l4).ii _ ra) rw4, q4, rfl⟩
    | false => exact ⟨κ3, acc, xs, (l'.trans l2).trans l3, o3, (s'.le l2).le l3, Rps.ex (l2.trans l3).ii _ ra, q, rfl⟩
  · have e : i = ds.length := by omega
    subst e
    exact .inl ⟨it.stop κ' l'.ii o', G Dl xs acc κ' (l1.trans l') o' s' hD0 ra (fin acc κ'.c p)⟩
theorem we_lc {elt tg iter : Expr} {ifs : List Expr} {scope : Scope} {own : List (Str × Nat)} {pos : Pos} (t : Tgt) (hcm : Y.X.calm = true) (hN : Y.X.N.Nodup) (ok : BlkOk Y.X.N Y.X.env.scope scope own) (hv : ∀ i ∈ t.slots, i ∈ own.map (·.2))
    (hg : ∀ b : Blk, PG (Y.blk scope b).X tg (t.g Y.X.K)) (h : WI Y ρ c tg iter (LcAsk Y ρ scope (own.map (·.2)) t ifs elt fun l c' => Q (.im (.lst l)) c')) (hs : ∀ x, foldedSetIterable iter Y.X.env x = pure x := by intro _; rfl) :
    WE Y ρ c (.ListComp elt [⟨tg, iter, ifs, 0⟩] scope pos) Q := fun κ σ hc o r g Q' G =>
  PE.w (pe_lc hcm hN pi_w ok (fun s H C cl fp => hg ⟨s, H, C, cl, fp⟩) (fun s H C cl fp => ⟨fun pins s1 σ1 H1 Q1 I1 h1 => h1 ⟨s, H, C, cl, fp⟩ pins s1 I1⟩) (fun s H C cl fp => ⟨fun pins s1 σ1 H1 Q1 I1 h1 => h1 ⟨s, H, C, cl, fp⟩ pins s1 I1⟩) hs)
    (lc_sem hv h hc o r g fun p xs l κ' l' o' s' hp rl q => by
      obtain ⟨o2, ee⟩ := o'.adopt s'
      exact G (.ref p) (.im (.lst l)) ⟨upd κ'.I p (.lst xs), κ'.H, κ'.th, κ'.c⟩ (l'.adopt s' hp) o2 ⟨p, xs, rfl, upd_same, Rps.ex ee l rl⟩ q)
end
end WL
/-! Defs, their promises and calls; raise; try. -/
namespace WL
open PySem PySem.Spec PyProof.Rows L2
/-! ### promises -/
/-- a def: from its arguments and the cells to what follows, what is raised -/
abbrev FSp := List W → List Cell → KQ → (Exn → List Cell → Prop) → Prop
def spOf (K : PySem.W.Frag) (F : FSp) : Sp := fun vs H Q E => ∃ (κ : Wd) (ws : List W), κ.H = H ∧ κ.Ok K ∧ RWs K κ.I κ.th ws vs ∧ ∃ (Qw : KQ) (Qx : Exn → List Cell → Prop), F ws κ.c Qw Qx ∧
  (∀ v w (κ' : Wd), κ.le κ' → κ'.Ok K → RW K κ'.I κ'.th w v → Qw w κ'.c → Q v κ'.H) ∧ (∀ x C d (κ' : Wd), κ.le κ' → κ'.Ok K → RX K κ' x C d → Qx x κ'.c → E C d κ'.H)
/-- what a def's end asks: its own cells go -/
def RtOk (n0 : Nat) (Q : KQ) (w : W) (c : List Cell) : Prop :=
  (∃ d, w = .im d ∧ clo n0 c = true ∧ Q (.im d) (c.take n0)) ∨ (∃ n l, w = .ce n ∧ n0 ≤ n ∧ c[n]? = some (.lst l) ∧ clo n0 c = true ∧ Q (.im (.lst l)) (c.take n0)) ∨
  (∃ n ks l, w = .ce n ∧ n0 ≤ n ∧ c[n]? = some (.dic ks l) ∧ clo n0 c = true ∧ Q (.im (.dic ks l)) (c.take n0)) ∨
  (∃ n l, w = .ce n ∧ n0 ≤ n ∧ c[n]? = some (.lst l) ∧ clo n0 c = true ∧ Q (.ce n0) (c.take n0 ++ [.lst l])) ∨
  (∃ n ks l, w = .ce n ∧ n0 ≤ n ∧ c[n]? = some (.dic ks l) ∧ clo n0 c = true ∧ Q (.ce n0) (c.take n0 ++ [.dic ks l])) ∨
  (∃ n C ns l, w = .ce n ∧ n0 ≤ n ∧ c[n]? = some (.ins C ns (l.map W.im)) ∧ clo n0 c = true ∧ Q (.im (.obj C ns l)) (c.take n0)) ∨ Q w c
theorem RtOk.im {n0 : Nat} {Q : KQ} {d : D} {c : List Cell} (q : Q (.im d) (c.take n0)) (h : clo n0 c = true := by rfl) : RtOk n0 Q (.im d) c := .inl ⟨d, rfl, h, q⟩
theorem RtOk.lst {n0 n : Nat} {Q : KQ} {l : List D} {c : List Cell} (hc : c[n]? = some (.lst l)) (q : Q (.im (.lst l)) (c.take n0)) (hn : n0 ≤ n := by first | omega | decide) (h : clo n0 c = true := by rfl) : RtOk n0 Q (.ce n) c := .inr (.inl ⟨n, l, rfl, hn, hc, h, q⟩)
theorem RtOk.dic {n0 n : Nat} {Q : KQ} {ks : List Key} {l : List D} {c : List Cell} (hc : c[n]? = some (.dic ks l)) (q : Q (.im (.dic ks l)) (c.take n0)) (hn : n0 ≤ n := by first | omega | decide) (h : clo n0 c = true := by rfl) : RtOk n0 Q (.ce n) c := .inr (.inr (.inl ⟨n, ks, l, rfl, hn, hc, h, q⟩))
theorem RtOk.newL {n0 n : Nat} {Q : KQ} {l : List D} {c : List Cell} (hc : c[n]? = some (.lst l)) (q : Q (.ce n0) (c.take n0 ++ [.lst l])) (hn : n0 ≤ n := by first | omega | decide) (h : clo n0 c = true := by rfl) : RtOk n0 Q (.ce n) c := .inr (.inr (.inr (.inl ⟨n, l, rfl, hn, hc, h, q⟩)))
theorem RtOk.obj {n0 n : Nat} {Q : KQ} {C : Addr} {ns : List Str} {l : List D} {c : List Cell} (hc : c[n]? = some (.ins C ns (l.map W.im))) (q : Q (.im (.obj C ns l)) (c.take n0)) (hn : n0 ≤ n := by first | omega | decide) (h : clo n0 c = true := by rfl) : RtOk n0 Q (.ce n) c := .inr (.inr (.inr (.inr (.inr (.inl ⟨n, C, ns, l, rfl, hn, hc, h, q⟩)))))
theorem RtOk.all {n0 : Nat} {Q : KQ} {w : W} {c : List Cell} (q : Q w c) : RtOk n0 Q w c := .inr (.inr (.inr (.inr (.inr (.inr q)))))
theorem RtOk.fin {K : PySem.W.Frag} {κ0 κ : Wd} {Q : KQ} {w : W} {v : V} {Q' : V → Hp → Prop} (l : κ0.le κ) (o : κ.Ok K) (rw_ : RW K κ.I κ.th w v) (h : RtOk κ0.th.length Q w κ.c)
    (k : ∀ v w κ', κ0.le κ' → κ'.Ok K → RW K κ'.I κ'.th w v → Q w κ'.c → Q' v κ'.H) : Q' v κ.H := by
  have at0 : ∀ {κ' : Wd}, κ0.le κ' → (κ'.th.take κ0.th.length).length = κ0.th.length := fun {κ'} l' => by
    rw [List.length_take, Nat.min_eq_left]
    cases hz : κ0.th.length with
    | zero => exact Nat.zero_le _
    | succ m =>
      have h1 : m < κ0.th.length := by omega
      have := l'.th m _ (List.getElem?_eq_getElem h1)
      exact (List.getElem?_eq_some_iff.mp this).1
  rcases h with ⟨d, rfl, hc, q⟩ | ⟨n, xs, rfl, hn, hk, hc, q⟩ | ⟨n, ks, xs, rfl, hn, hk, hc, q⟩ | ⟨n, xs, rfl, hn, hk, hc, q⟩ | ⟨n, ks, xs, rfl, hn, hk, hc, q⟩ | ⟨n, C, ns, xs, rfl, hn, hk, hc, q⟩ | q
  · exact k v (.im d) ⟨κ.I, κ.H, κ.th.take κ0.th.length, κ.c.take κ0.th.length⟩ l.take (o.take hc) rw_ q
  · obtain ⟨a, ha, rfl⟩ := rw_
    obtain ⟨vs, g1, g2⟩ := o.cl n a _ ha hk
    have s := o.past (κ0 := κ0) hn ha g1
    obtain ⟨o2, ee⟩ := (o.take hc).adopt s
    exact k (.ref a) (.im (.lst xs)) ⟨upd κ.I a (.lst vs), κ.H, κ.th.take κ0.th.length, κ.c.take κ0.th.length⟩ (l.take.adopt s (l.newer o hn ha)) o2 ⟨a, vs, rfl, upd_same, Rps.ex ee xs g2⟩ q
  · obtain ⟨a, ha, rfl⟩ := rw_
    obtain ⟨vs, g1, g3, g2⟩ := o.cl n a _ ha hk
    have s := o.past (κ0 := κ0) hn ha g1
    obtain ⟨o2, ee⟩ := (o.take hc).adopt s
    exact k (.ref a) (.im (.dic ks xs)) ⟨upd κ.I a (.dK (ks.zip vs)), κ.H, κ.th.take κ0.th.length, κ.c.take κ0.th.length⟩ (l.take.adopt s (l.newer o hn ha)) o2 ⟨a, vs, rfl, upd_same, g3, Rps.ex ee xs g2⟩ q
  · obtain ⟨a, ha, rfl⟩ := rw_
    obtain ⟨vs, g1, g2⟩ := o.cl n a _ ha hk
    have s := o.past (κ0 := κ0) hn ha g1
    exact k (.ref a) (.ce κ0.th.length) ⟨κ.I, κ.H, κ.th.take κ0.th.length ++ [a], κ.c.take κ0.th.length ++ [.lst xs]⟩ (l.take.enter s (l.newer o hn ha)) ((o.take hc).enter s (show CellOk K _ _ _ a (.lst xs) from ⟨vs, g1, g2⟩)) ⟨a, by rw [List.getElem?_append_right (by rw [at0 l]; exact Nat.le_refl _), at0 l]; simp, rfl⟩ q
  · obtain ⟨a, ha, rfl⟩ := rw_
    obtain ⟨vs, g1, g3, g2⟩ := o.cl n a _ ha hk
    have s := o.past (κ0 := κ0) hn ha g1
    exact k (.ref a) (.ce κ0.th.length) ⟨κ.I, κ.H, κ.th.take κ0.th.length ++ [a], κ.c.take κ0.th.length ++ [.dic ks xs]⟩ (l.take.enter s (l.newer o hn ha)) ((o.take hc).enter s (show CellOk K _ _ _ a (.dic ks xs) from ⟨vs, g1, g3, g2⟩)) ⟨a, by rw [List.getElem?_append_right (by rw [at0 l]; exact Nat.le_refl _), at0 l]; simp, rfl⟩ q
  · obtain ⟨a, ha, rfl⟩ := rw_
    obtain ⟨dx, vs, g1, g3, g2⟩ := o.cl n a _ ha hk
    have s := o.past (κ0 := κ0) hn ha g1
    obtain ⟨o2, ee⟩ := (o.take hc).adopt s
    exact k (.ref a) (.im (.obj C ns xs)) ⟨upd κ.I a (.ins C dx (ns.zip vs)), κ.H, κ.th.take κ0.th.length, κ.c.take κ0.th.length⟩ (l.take.adopt s (l.newer o hn ha)) o2 ⟨a, dx, vs, rfl, upd_same, g3, Rps.ex ee xs (RWs.im (ims_map xs) g2)⟩ q
  · exact k v w κ l o rw_ q
/-- a def's body: the context -/
def cyF (P : Program) (w : World) (K : PySem.W.Frag) (mg : Str → Option Value) (base : Heap) (N : List Str) (qual : Str) (scope : Scope) (f : Addr) (cd : Value) (A : Around) (outer : List Env) (s : Shared) (H : Hp) (E : XK) (n0 : Nat) (Qx : Exn → List Cell → Prop) : Cy where
  X := cxOf (L2.CX P w) P w K mg base N qual scope f cd A outer s H E
  Wx := fun cls d _ H => E cls d H
  tk := takes_of rfl rfl rfl rfl
  po := passes_of rfl
  Qx := fun x _ c => clo n0 c = true ∧ Qx x (c.take n0)
theorem start_env {K : PySem.W.Frag} {κ : Wd} {N : List Str} {ws : List W} {vs : List V} (r : RWs K κ.I κ.th ws vs) : REnv K κ (L2.start N vs) (ws.map some ++ List.replicate (N.length - ws.length) none) := by
  have hl := r.len
  refine ⟨by unfold L2.start; simp [hl], fun i w h => ?_⟩
  by_cases hi : i < ws.length
  · rw [List.getElem?_append_left (by simpa using hi), List.getElem?_map] at h
    have h2 : ws[i]? = some w := by
      cases q : ws[i]? with
      | none => rw [q] at h; simp at h
      | some x => rw [q] at h; simpa using h
    obtain ⟨v, g1, g2⟩ := r.get h2
    refine ⟨v, ?_, g2⟩
    unfold L2.start
    rw [List.getElem?_append_left (by simpa [hl] using hi), List.getElem?_map, g1]
    rfl
  · rw [List.getElem?_append_right (by simpa using Nat.le_of_not_lt hi)] at h
    rw [List.getElem?_replicate] at h
    split at h <;> simp at h
section
variable {P : Program} {w : World} {K : PySem.W.Frag} {mg : Str → Option Value} {base : Heap}
/-- THE RULE of a def -/
theorem fn_w {x qual : Str} {st : Stmt} {f : Addr} {fd : FuncData} {N ps : List Str} {k : Nat} {F : FSp} (Fu : Fun K x qual st f fd) (S : FnScope N ps (defScope st)) (hl : ∀ ws c Q E, F ws c Q E → ws.length = ps.length)
    (body : ∀ (cdv : Value) (A : Around) (outer : List Env) (s : Shared) (H : Hp) (E : XK) (ws : List W) (c : List Cell) (Q : KQ) (Qx : Exn → List Cell → Prop), Room k (A.deeper (envOfC qual (defScope st) s.heap.objs.size f cdv)) → F ws c Q Qx →
      WSs (cyF P w K mg base N qual (defScope st) f cdv A outer s H E c.length Qx) c.length (ws.map some ++ List.replicate (N.length - ws.length) none) c (defBody st) { nx := fun _ c' => RtOk c.length Q (.im .non) c', rt := RtOk c.length Q }) :
    FnOk P w K mg base (L2.CX P w) (k + 1) f fd ps (spOf K F) := by
  refine Fu.okX S (fun vs H Q E h => ?_) (fun cdv A outer s H vs Q E hr h => ?_)
  · obtain ⟨κ, ws, _, _, r, Qw, Qx, hF, _⟩ := h
    rw [r.len]; exact hl _ _ _ _ hF
  · obtain ⟨κ, ws, rfl, o, r, Qw, Qx, hF, kq, kx⟩ := h
    have hb := body cdv A outer s κ.H E ws κ.c Qw Qx hr hF
    have hn : κ.th.length = κ.c.length := o.len
    refine ⟨wSs (cyF P w K mg base N qual (defScope st) f cdv A outer s κ.H E κ.c.length Qx).X (defBody st), pss_w, ?_⟩
    refine hb κ κ (L2.start N vs) hn (.refl _) rfl o (start_env r) _ ⟨fun σ' κ' ρ' l' o' r' q => ?_, fun v w' κ' l' o' rw' q => ?_, fun _ _ _ _ _ _ q => q.elim, fun _ _ _ _ _ _ q => q.elim, fun x C d σ' κ' ρ' l' o' r' rx q => ?_⟩
    · rw [← hn] at q
      exact RtOk.fin (Q' := Q) l' o' (show RW K κ'.I κ'.th (.im .non) .non from rfl) q kq
    · rw [← hn] at q
      exact RtOk.fin (Q' := Q) l' o' rw' q kq
    · obtain ⟨hc, q⟩ := q
      rw [← hn] at q hc
      exact kx x C d ⟨κ'.I, κ'.H, κ'.th.take κ.th.length, κ'.c.take κ.th.length⟩ l'.take (o'.take hc) rx q
/-- a def stands under its name -/
structure HasFn (P : Program) (w : World) (K : PySem.W.Frag) (mg : Str → Option Value) (base : Heap) (k : Nat) (x : Str) (ps : List Str) (F : FSp) : Prop where
  ex : ∃ (f : Addr) (fd : FuncData), mg x = some (.ref f) ∧ PySem.W.keepIn K (.ref f) = true ∧ FnOk P w K mg base (L2.CX P w) k f fd ps (spOf K F) ∧ Binds K fd ps []
end
/-! ### calls -/
section
variable {Y : Cy} {ρ : Ρ} {c : List Cell} {Q : KQ}
theorem sp_go {F : FSp} {κ1 : Wd} {σ : L2.St} {ws : List W} {vs : List V} {Q' : VK} (g1 : GoX Y κ1 σ ρ) (o1 : κ1.Ok Y.X.K) (rws : RWs Y.X.K κ1.I κ1.th ws vs) (q : F ws κ1.c Q fun x c2 => Y.Qx x ρ c2) (G : GoV Y κ1 Q' Q) :
    spOf Y.X.K F vs κ1.H Q' (L2.WE Y.Wx σ) := ⟨κ1, ws, rfl, o1, rws, Q, fun x c2 => Y.Qx x ρ c2, q, G, fun x C d κ' l' o' rx q' => g1.ex x C d κ' l' o' rx q'⟩
theorem we_call {k : Nat} {x : Str} {ps : List Str} {F : FSp} {p pos : Pos} {e : Expr} {es : List Expr} (hf : HasFn Y.X.prog Y.X.w Y.X.K Y.X.mg Y.X.base k x ps F) (hr : Room k Y.X.A) (hg : Gl Y.X x)
    (h : WA Y ρ c (e :: es) fun ws c1 => F ws c1 Q fun x c2 => Y.Qx x ρ c2) (hdb : (x == ("__debug__" : Str)) = false := by decide) (he : starEach (e :: es) Y.X.env = (false, eval e Y.X.env) :: starEach es Y.X.env := by rfl) (hpl : (backTo pos (starEach es Y.X.env)).any (·.1) = false := by rfl) :
    WE Y ρ c (.Call (.Name x p) (e :: es) [] pos) Q := fun κ σ hc o r g Q' G => by
  obtain ⟨f, fd, hm, hk, hF, hb⟩ := hf.ex
  refine PE.w (pe_callSD hF hr hg hm hk hb .nil (E := L2.WE Y.Wx) (passAt Y.tk) pa_w hdb he hpl) (h.bind hc o r g fun vs ws κ1 l1 o1 r1 g1 rws q => ?_)
  show spOf Y.X.K F (vs ++ []) κ1.H Q' (L2.WE Y.Wx σ)
  rw [List.append_nil]
  exact sp_go g1 o1 rws q (GoV.le G l1)
/-- a built-in, a built-in class -/
theorem we_callB {id : String} {x : Str} {p pos : Pos} {e : Expr} {es : List Expr} (hg : Gl Y.X x) (hm : Y.X.mg x = none) (hv : bootBuiltins x = some (.builtin id)) (h : WA Y ρ c (e :: es) fun ws c1 => WC Y (.builtin id) ws c1 Q)
    (hn : x ≠ "__name__" := by decide) (hdb : (x == ("__debug__" : Str)) = false := by decide) (he : starEach (e :: es) Y.X.env = (false, eval e Y.X.env) :: starEach es Y.X.env := by rfl) (hpl : (backTo pos (starEach es Y.X.env)).any (·.1) = false := by rfl) :
    WE Y ρ c (.Call (.Name x p) (e :: es) [] pos) Q := fun κ σ hc o r g Q' G =>
  PE.w (pe_callB call_w hg hm hv pa_w hn hdb he hpl) (h.bind hc o r g fun vs ws κ1 l1 o1 r1 g1 rws q => q κ1 vs rfl o1 rws Q' (GoV.le G l1))
theorem we_callTy {T : String} {x : Str} {p pos : Pos} {e : Expr} {es : List Expr} (hg : Gl Y.X x) (hm : Y.X.mg x = none) (hv : bootBuiltins x = some (.type T)) (h : WA Y ρ c (e :: es) fun ws c1 => WC Y (.type T) ws c1 Q)
    (hn : x ≠ "__name__" := by decide) (hdb : (x == ("__debug__" : Str)) = false := by decide) (he : starEach (e :: es) Y.X.env = (false, eval e Y.X.env) :: starEach es Y.X.env := by rfl) (hpl : (backTo pos (starEach es Y.X.env)).any (·.1) = false := by rfl) :
    WE Y ρ c (.Call (.Name x p) (e :: es) [] pos) Q := fun κ σ hc o r g Q' G =>
  PE.w (pe_callTy call_w hg hm hv pa_w hn hdb he hpl) (h.bind hc o r g fun vs ws κ1 l1 o1 r1 g1 rws q => q κ1 vs rfl o1 rws Q' (GoV.le G l1))
/-- a subscript, a slice -/
theorem we_ix {a b : Expr} {pos : Pos} (h : WE Y ρ c a fun w1 c1 => WE Y ρ c1 b fun w2 c2 => WIx Y w1 w2 c2 Q) (hs : PlainIx b := by intro _ _; rfl) : WE Y ρ c (.Subscript a b pos) Q := fun κ σ hc o r g Q' G =>
  PE.w (pe_ix ix_w pe_w pe_w hs) (h.bind hc o r g fun v1 w1 κ1 l1 o1 r1 g1 rw1 q1 => q1.bind rfl o1 r1 g1 fun v2 w2 κ2 l2 o2 r2 g2 rw2 q2 => q2 κ2 v1 v2 rfl o2 (rw1.le l2) rw2 Q' (GoV.le G (l1.trans l2)))
end
end WL
/-! Operators, built-ins, subscripts and methods over plain data. -/
namespace WL
open PySem PySem.Spec PyProof.Rows L2
/-! ### == of data -/
mutual
def deq : D → D → Bool
  | .non, .non => true
  | .bl a, .bl b => a == b
  | .bl a, .int j => (if a then 1 else 0) == j
  | .int i, .bl b => i == (if b then 1 else 0)
  | .int i, .int j => i == j
  | .str x, .str y => x == y
  | .lst a, .lst b => deqs a b
  | .tup a, .tup b => deqs a b
  | _, _ => false
def deqs : List D → List D → Bool
  | [], [] => true
  | x :: xs, y :: ys => deq x y && deqs xs ys
  | _, _ => false
end
mutual
def D.py : D → PyData
  | .non => .none
  | .bl b => .bool b
  | .int i => .int i
  | .str x => .str x
  | .lst l => .list (pys l)
  | .tup l => .tuple (pys l)
  | _ => .dict []
def pys : List D → List PyData
  | [] => []
  | d :: ds => d.py :: pys ds
end
mutual
theorem eqv_py : ∀ d e : D, PyData.eqv d.py e.py = deq d e
  | .non, e => by cases e <;> rfl
  | .bl b, e => by cases e <;> rfl
  | .int i, e => by cases e <;> rfl
  | .str x, e => by cases e <;> rfl
  | .lst l, e => by
    cases e with
    | lst m => exact eqv_pys l m
    | _ => rfl
  | .tup l, e => by
    cases e with
    | tup m => exact eqv_pys l m
    | _ => rfl
  | .scr l, e => by cases e <;> rfl
  | .obj _ _ _, e => by cases e <;> rfl
  | .dic _ _, e => by cases e <;> rfl
  | .dct _ _, e => by cases e <;> rfl
  | .ty _, e => by cases e <;> rfl
  | .cls _, e => by cases e <;> rfl
theorem eqv_pys : ∀ l m : List D, PyData.eqvAll (pys l) (pys m) = deqs l m
  | [], [] => rfl
  | [], _ :: _ => rfl
  | _ :: _, [] => rfl
  | x :: xs, y :: ys => by
    show (PyData.eqv x.py y.py && PyData.eqvAll (pys xs) (pys ys)) = (deq x y && deqs xs ys)
    rw [eqv_py x y, eqv_pys xs ys]
end
/-- data without objects, at most n deep -/
def Pn : Nat → D → Prop
  | _, .non => True
  | _, .bl _ => True
  | _, .int _ => True
  | _, .str x => PyData.strOk x = true
  | n + 1, .lst l => ∀ x ∈ l, Pn n x
  | n + 1, .tup l => ∀ x ∈ l, Pn n x
  | _, _ => False
theorem Pn.up : ∀ {n : Nat} {d : D}, Pn n d → Pn (n + 1) d
  | _, .non, _ => by simp [Pn]
  | _, .bl _, _ => by simp [Pn]
  | _, .int _, _ => by simp [Pn]
  | _, .str x, h => by simpa [Pn] using h
  | 0, .lst l, h => by simp [Pn] at h
  | 0, .tup l, h => by simp [Pn] at h
  | n + 1, .lst l, h => fun x hx => Pn.up (h x hx)
  | n + 1, .tup l, h => fun x hx => Pn.up (h x hx)
  | _, .scr _, h => by simp [Pn] at h
  | _, .obj _ _ _, h => by simp [Pn] at h
  | _, .dic _ _, h => by simp [Pn] at h
  | _, .dct _ _, h => by simp [Pn] at h
  | _, .ty _, h => by simp [Pn] at h
  | _, .cls _, h => by simp [Pn] at h
theorem Pn.mono {n m : Nat} {d : D} (h : Pn n d) (l : n ≤ m) : Pn m d := by
  induction l with
  | refl => exact h
  | step _ ih => exact ih.up
theorem Pn.sh : ∀ (n : Nat) (d : D), Pn n d → d.py.canLay0 = true ∧ d.py.depth ≤ n := by
  have ls : ∀ (n : Nat), (∀ d, Pn n d → d.py.canLay0 = true ∧ d.py.depth ≤ n) → ∀ l : List D, (∀ x ∈ l, Pn n x) → PyData.canLayAll0 (pys l) = true ∧ PyData.depthAll (pys l) ≤ n := by
    intro n ih l
    induction l with
    | nil => intro _; exact ⟨rfl, Nat.zero_le _⟩
    | cons x xs ihl =>
      intro h
      obtain ⟨a1, a2⟩ := ih x (h x List.mem_cons_self)
      obtain ⟨b1, b2⟩ := ihl fun y hy => h y (List.mem_cons_of_mem _ hy)
      refine ⟨?_, ?_⟩
      · show (x.py.canLay0 && PyData.canLayAll0 (pys xs)) = true
        rw [a1, b1]; rfl
      · show max x.py.depth (PyData.depthAll (pys xs)) ≤ n
        omega
  intro n
  induction n with
  | zero =>
    intro d h
    cases d with
    | non => exact ⟨rfl, Nat.zero_le _⟩
    | bl _ => exact ⟨rfl, Nat.zero_le _⟩
    | int _ => exact ⟨rfl, Nat.zero_le _⟩
    | str x => exact ⟨(by simpa [Pn] using h : PyData.strOk x = true), Nat.zero_le _⟩
    | _ => simp [Pn] at h
  | succ n ih =>
    intro d h
    cases d with
    | non => exact ⟨rfl, Nat.zero_le _⟩
    | bl _ => exact ⟨rfl, Nat.zero_le _⟩
    | int _ => exact ⟨rfl, Nat.zero_le _⟩
    | str x => exact ⟨(by simpa [Pn] using h : PyData.strOk x = true), Nat.zero_le _⟩
    | lst l =>
      obtain ⟨a, b⟩ := ls n ih l h
      exact ⟨a, by show PyData.depthAll (pys l) + 1 ≤ n + 1; omega⟩
    | tup l =>
      obtain ⟨a, b⟩ := ls n ih l h
      exact ⟨a, by show PyData.depthAll (pys l) + 1 ≤ n + 1; omega⟩
    | _ => simp [Pn] at h
theorem Pn.shaped {d : D} (h : Pn 60 d) : SeqAt.shaped d.py = true := by
  obtain ⟨a, b⟩ := Pn.sh 60 d h
  unfold SeqAt.shaped
  rw [a, decide_eq_true (by omega : d.py.depth ≤ 64)]; rfl
theorem Rp.dp {K : PySem.W.Frag} {H : Hp} : ∀ (n : Nat) (d : D) (v : V), Pn n d → Rp K H d v → Dp K H v d.py := by
  have ls : ∀ (n : Nat), (∀ d v, Pn n d → Rp K H d v → Dp K H v d.py) → ∀ (l : List D) (vs : List V), (∀ x ∈ l, Pn n x) → Rps K H l vs → DpAll K H vs (pys l) := by
    intro n ih l
    induction l with
    | nil => intro vs _ h; rw [show vs = [] from h]; exact .nil
    | cons x xs ihl =>
      intro vs hp h
      obtain ⟨v, r, rfl, h1, h2⟩ := h
      exact .cons (ih x v (hp x List.mem_cons_self) h1) (ihl r (fun y hy => hp y (List.mem_cons_of_mem _ hy)) h2)
  intro n
  induction n with
  | zero =>
    intro d v h r
    cases d with
    | non => cases (show v = .non from r); exact .non
    | bl b => cases (show v = .bl b from r); exact .bl b
    | int b => cases (show v = .int b from r); exact .int b
    | str b => cases (show v = .str b from r); exact .str b
    | _ => simp [Pn] at h
  | succ n ih =>
    intro d v h r
    cases d with
    | non => cases (show v = .non from r); exact .non
    | bl b => cases (show v = .bl b from r); exact .bl b
    | int b => cases (show v = .int b from r); exact .int b
    | str b => cases (show v = .str b from r); exact .str b
    | lst l =>
      obtain ⟨a, vs, rfl, h1, h2⟩ := r
      exact .lst (SqL.of h1) (ls n ih l vs h h2)
    | tup l =>
      obtain ⟨a, vs, rfl, h1, h2⟩ := r
      exact .tup h1 (ls n ih l vs h h2)
    | _ => simp [Pn] at h
/-! ### a look at what is held, as data -/
inductive Sn (c : List Cell) : W → D → Prop where
  | im {d : D} : Sn c (.im d) d
  | lst {n : Nat} {l : List D} (h : c[n]? = some (.lst l)) : Sn c (.ce n) (.lst l)
  | dic {n : Nat} {ks : List Key} {l : List D} (h : c[n]? = some (.dic ks l)) : Sn c (.ce n) (.dic ks l)
theorem Sn.rp {K : PySem.W.Frag} {κ : Wd} {c : List Cell} {w : W} {d : D} {v : V} (h : Sn c w d) (hc : κ.c = c) (o : κ.Ok K) (r : RW K κ.I κ.th w v) : Rp K κ.H d v := by
  subst hc
  cases h with
  | im => exact Rp.ex o.ex _ r
  | lst h =>
    obtain ⟨a, h1, rfl⟩ := r
    obtain ⟨vs, g1, g2⟩ := o.cl _ a _ h1 h
    exact ⟨a, vs, rfl, g1, Rps.ex o.ex _ g2⟩
  | dic h =>
    obtain ⟨a, h1, rfl⟩ := r
    obtain ⟨vs, g1, g2, g3⟩ := o.cl _ a _ h1 h
    exact ⟨a, vs, rfl, g1, g2, Rps.ex o.ex _ g3⟩
/-- .. its items, data of the immutable part -/
theorem Sn.lstI {K : PySem.W.Frag} {κ : Wd} {c : List Cell} {w : W} {l : List D} {v : V} (h : Sn c w (.lst l)) (hc : κ.c = c) (o : κ.Ok K) (r : RW K κ.I κ.th w v) : ∃ a vs, v = .ref a ∧ κ.H a = some (.lst vs) ∧ Rps K κ.I l vs := by
  subst hc
  cases h with
  | im =>
    obtain ⟨a, vs, rfl, g1, g2⟩ := r
    exact ⟨a, vs, rfl, o.ex _ _ g1, g2⟩
  | lst h =>
    obtain ⟨a, h1, rfl⟩ := r
    obtain ⟨vs, g1, g2⟩ := o.cl _ a _ h1 h
    exact ⟨a, vs, rfl, g1, g2⟩
theorem Sn.dicI {K : PySem.W.Frag} {κ : Wd} {c : List Cell} {w : W} {ks : List Key} {l : List D} {v : V} (h : Sn c w (.dic ks l)) (hc : κ.c = c) (o : κ.Ok K) (r : RW K κ.I κ.th w v) : ∃ a vs, v = .ref a ∧ κ.H a = some (.dK (ks.zip vs)) ∧ ks.length = vs.length ∧ Rps K κ.I l vs := by
  subst hc
  cases h with
  | im =>
    obtain ⟨a, vs, rfl, g1, g2, g3⟩ := r
    exact ⟨a, vs, rfl, o.ex _ _ g1, g2, g3⟩
  | dic h =>
    obtain ⟨a, h1, rfl⟩ := r
    obtain ⟨vs, g1, g2, g3⟩ := o.cl _ a _ h1 h
    exact ⟨a, vs, rfl, g1, g2, g3⟩
section
variable {Y : Cy} {c : List Cell} {Q : KQ} {w w1 w2 : W}
/-! ### ints -/
theorem wo_I {f : Value → Value → Sem Value} {C : Int → Int → Prop} {g : Int → Int → Int} (h : OpR Y.X f (rI C fun i j => .int (g i j))) {i j : Int} (hc : C i j) (q : Q (.im (.int (g i j))) c) : WO Y f (.im (.int i)) (.im (.int j)) c Q := fun κ x y e o rx ry Q' G =>
  OpR.w h ⟨i, j, rx, ry, hc, G (.int (g i j)) (.im (.int (g i j))) κ (.refl _) o rfl (by rw [e]; exact q)⟩
theorem wo_I0 {f : Value → Value → Sem Value} {g : Int → Int → Int} (h : OpR Y.X f (rI0 fun i j => .int (g i j))) {i j : Int} (q : Q (.im (.int (g i j))) c) : WO Y f (.im (.int i)) (.im (.int j)) c Q := fun κ x y e o rx ry Q' G =>
  OpR.w h ⟨i, j, rx, ry, G (.int (g i j)) (.im (.int (g i j))) κ (.refl _) o rfl (by rw [e]; exact q)⟩
theorem wo_B0 {f : Value → Value → Sem Value} {g : Int → Int → Bool} (h : OpR Y.X f (rI0 fun i j => .bl (g i j))) {i j : Int} (q : Q (.im (.bl (g i j))) c) : WO Y f (.im (.int i)) (.im (.int j)) c Q := fun κ x y e o rx ry Q' G =>
  OpR.w h ⟨i, j, rx, ry, G (.bl (g i j)) (.im (.bl (g i j))) κ (.refl _) o rfl (by rw [e]; exact q)⟩
section
variable {i j : Int}
theorem wo_add (q : Q (.im (.int (i + j))) c) : WO Y (binaryOp .Add) (.im (.int i)) (.im (.int j)) c Q := wo_I0 op_add q
theorem wo_sub (q : Q (.im (.int (i - j))) c) : WO Y (binaryOp .Sub) (.im (.int i)) (.im (.int j)) c Q := wo_I0 op_sub q
theorem wo_iadd (q : Q (.im (.int (i + j))) c) : WO Y (inplaceOp .Add) (.im (.int i)) (.im (.int j)) c Q := wo_I0 iop_add q
theorem wo_mul (h : CMul i j) (q : Q (.im (.int (i * j))) c) : WO Y (binaryOp .Mult) (.im (.int i)) (.im (.int j)) c Q := wo_I op_mul h q
theorem wo_mulW (h : CMulW i j) (q : Q (.im (.int (i * j))) c) : WO Y (binaryOp .Mult) (.im (.int i)) (.im (.int j)) c Q := wo_I op_mulW h q
theorem wo_div (h : CDivW i j) (q : Q (.im (.int (i / j))) c) : WO Y (binaryOp .FloorDiv) (.im (.int i)) (.im (.int j)) c Q := wo_I op_fdivW h q
theorem wo_mod (h : 0 < j) (q : Q (.im (.int (i % j))) c) : WO Y (binaryOp .Mod) (.im (.int i)) (.im (.int j)) c Q := wo_I op_mod h q
theorem wo_pow (h : CPow i j) (q : Q (.im (.int (i ^ j.toNat))) c) : WO Y (binaryOp .Pow) (.im (.int i)) (.im (.int j)) c Q := wo_I op_pow h q
theorem wu_neg (q : Q (.im (.int (-i))) c) : WU Y (unaryOp .USub) (.im (.int i)) c Q := fun κ x e o rx Q' G => UnR.w un_neg ⟨i, rx, G (.int (-i)) (.im (.int (-i))) κ (.refl _) o rfl (by rw [e]; exact q)⟩
theorem wo_lt (q : Q (.im (.bl (decide (i < j)))) c) : WO Y (compareOp .Lt) (.im (.int i)) (.im (.int j)) c Q := wo_B0 op_lt q
theorem wo_le (q : Q (.im (.bl (decide (i ≤ j)))) c) : WO Y (compareOp .LtE) (.im (.int i)) (.im (.int j)) c Q := wo_B0 op_le q
theorem wo_gt (q : Q (.im (.bl (decide (j < i)))) c) : WO Y (compareOp .Gt) (.im (.int i)) (.im (.int j)) c Q := wo_B0 op_gt q
theorem wo_ge (q : Q (.im (.bl (decide (j ≤ i)))) c) : WO Y (compareOp .GtE) (.im (.int i)) (.im (.int j)) c Q := wo_B0 op_ge q
theorem wo_eqI (q : Q (.im (.bl (decide (i = j)))) c) : WO Y (compareOp .Eq) (.im (.int i)) (.im (.int j)) c Q := fun κ x y e o rx ry Q' G =>
  OpR.w op_eq (by rw [show x = .int i from rx, show y = .int j from ry]; exact ⟨rfl, by rw [dec_int, show (i == j) = decide (i = j) from by rw [Bool.beq_eq_decide_eq]]; exact G (.bl _) (.im (.bl (decide (i = j)))) κ (.refl _) o rfl (by rw [e]; exact q)⟩)
theorem wo_neI (q : Q (.im (.bl (!decide (i = j)))) c) : WO Y (compareOp .NotEq) (.im (.int i)) (.im (.int j)) c Q := fun κ x y e o rx ry Q' G =>
  OpR.w op_ne (by rw [show x = .int i from rx, show y = .int j from ry]; exact ⟨rfl, by rw [dec_int, show (i == j) = decide (i = j) from by rw [Bool.beq_eq_decide_eq]]; exact G (.bl _) (.im (.bl (!decide (i = j)))) κ (.refl _) o rfl (by rw [e]; exact q)⟩)
end
/-! ### texts -/
section
variable {x y : Str}
theorem wo_eqS (q : Q (.im (.bl (decide (x = y)))) c) : WO Y (compareOp .Eq) (.im (.str x)) (.im (.str y)) c Q := fun κ a b e o rx ry Q' G =>
  OpR.w op_eq (by rw [show a = .str x from rx, show b = .str y from ry]; exact ⟨rfl, by rw [dec_str, show (x == y) = decide (x = y) from by rw [Bool.beq_eq_decide_eq]]; exact G (.bl _) (.im (.bl (decide (x = y)))) κ (.refl _) o rfl (by rw [e]; exact q)⟩)
theorem wo_neS (q : Q (.im (.bl (!decide (x = y)))) c) : WO Y (compareOp .NotEq) (.im (.str x)) (.im (.str y)) c Q := fun κ a b e o rx ry Q' G =>
  OpR.w op_ne (by rw [show a = .str x from rx, show b = .str y from ry]; exact ⟨rfl, by rw [dec_str, show (x == y) = decide (x = y) from by rw [Bool.beq_eq_decide_eq]]; exact G (.bl _) (.im (.bl (!decide (x = y)))) κ (.refl _) o rfl (by rw [e]; exact q)⟩)
theorem wo_catS (h : x.length + y.length ≤ sizeLine) (q : Q (.im (.str (x ++ y))) c) : WO Y (binaryOp .Add) (.im (.str x)) (.im (.str y)) c Q := fun κ a b e o rx ry Q' G =>
  OpR.w op_add_str ⟨x, y, rx, ry, h, G (.str (x ++ y)) (.im (.str (x ++ y))) κ (.refl _) o rfl (by rw [e]; exact q)⟩
end
/-! ### data -/
section
variable {d d1 d2 : D}
theorem wo_eqD (hu : Y.X.A.units + 64 < cLine) (s1 : Sn c w1 d1) (s2 : Sn c w2 d2) (p1 : Pn 60 d1) (p2 : Pn 60 d2) (q : Q (.im (.bl (deq d1 d2))) c) : WO Y (compareOp .Eq) w1 w2 c Q := fun κ a b e o rx ry Q' G =>
  OpR.w (op_eqD hu) ⟨d1.py, d2.py, Rp.dp 60 _ _ p1 (s1.rp e o rx), Rp.dp 60 _ _ p2 (s2.rp e o ry), p1.shaped, p2.shaped, by rw [eqv_py]; exact G (.bl _) (.im (.bl (deq d1 d2))) κ (.refl _) o rfl (by rw [e]; exact q)⟩
theorem wo_neD (hu : Y.X.A.units + 64 < cLine) (s1 : Sn c w1 d1) (s2 : Sn c w2 d2) (p1 : Pn 60 d1) (p2 : Pn 60 d2) (q : Q (.im (.bl (!deq d1 d2))) c) : WO Y (compareOp .NotEq) w1 w2 c Q := fun κ a b e o rx ry Q' G =>
  OpR.w (op_neD hu) ⟨d1.py, d2.py, Rp.dp 60 _ _ p1 (s1.rp e o rx), Rp.dp 60 _ _ p2 (s2.rp e o ry), p1.shaped, p2.shaped, by rw [eqv_py]; exact G (.bl _) (.im (.bl (!deq d1 d2))) κ (.refl _) o rfl (by rw [e]; exact q)⟩
/-- is it None -/
def D.isN : D → Bool
  | .non => true
  | _ => false
theorem isN_v {K : PySem.W.Frag} {H : Hp} {d : D} {v : V} (h : Rp K H d v) : decide (v = .non) = d.isN := by
  cases d with
  | non => cases (show v = .non from h); rfl
  | bl b => cases (show v = .bl b from h); rfl
  | int b => cases (show v = .int b from h); rfl
  | str b => cases (show v = .str b from h); rfl
  | tup l => obtain ⟨a, vs, rfl, _⟩ := h; rfl
  | lst l => obtain ⟨a, vs, rfl, _⟩ := h; rfl
  | scr l => obtain ⟨a, rfl, _⟩ := h; rfl
  | obj C ns l => obtain ⟨a, dx, vs, rfl, _⟩ := h; rfl
  | dic ks l => obtain ⟨a, vs, rfl, _⟩ := h; rfl
  | dct ks l => obtain ⟨a, vs, rfl, _⟩ := h; rfl
  | ty n => cases (show v = .ty n from h); rfl
  | cls C => cases (show v = .ref C from h); rfl
theorem wo_isN (q : Q (.im (.bl d.isN)) c) : WO Y (compareOp .Is) (.im d) (.im .non) c Q := fun κ a b e o rx ry Q' G =>
  OpR.w op_isN ⟨ry, by rw [isN_v (show Rp Y.X.K κ.I d a from rx)]; exact G (.bl _) (.im (.bl d.isN)) κ (.refl _) o rfl (by rw [e]; exact q)⟩
theorem wo_notN (q : Q (.im (.bl (!d.isN))) c) : WO Y (compareOp .IsNot) (.im d) (.im .non) c Q := fun κ a b e o rx ry Q' G =>
  OpR.w op_notN ⟨ry, by rw [isN_v (show Rp Y.X.K κ.I d a from rx)]; exact G (.bl _) (.im (.bl (!d.isN))) κ (.refl _) o rfl (by rw [e]; exact q)⟩
def D.flat : D → Bool
  | .non => true
  | .bl _ => true
  | .int _ => true
  | .str _ => true
  | _ => false
theorem flat_v {K : PySem.W.Frag} {H : Hp} {d : D} {v : V} (f : d.flat = true) (h : Rp K H d v) : flatV v = true := by
  cases d with
  | non => cases (show v = .non from h); rfl
  | bl b => cases (show v = .bl b from h); rfl
  | int b => cases (show v = .int b from h); rfl
  | str b => cases (show v = .str b from h); rfl
  | _ => cases f
theorem eq_v {K : PySem.W.Frag} {H : Hp} {d e : D} {v u : V} (f : d.flat = true) (f' : e.flat = true) (h : Rp K H d v) (h' : Rp K H e u) : eqV v u = deq d e := by
  cases d with
  | non => cases (show v = .non from h); cases e with
    | non => cases (show u = .non from h'); rfl
    | bl b => cases (show u = .bl b from h'); rfl
    | int b => cases (show u = .int b from h'); rfl
    | str b => cases (show u = .str b from h'); rfl
    | _ => cases f'
  | bl b => cases (show v = .bl b from h); cases e with
    | non => cases (show u = .non from h'); rfl
    | bl b => cases (show u = .bl b from h'); rfl
    | int b => cases (show u = .int b from h'); rfl
    | str b => cases (show u = .str b from h'); rfl
    | _ => cases f'
  | int b => cases (show v = .int b from h); cases e with
    | non => cases (show u = .non from h'); rfl
    | bl b => cases (show u = .bl b from h'); rfl
    | int b => cases (show u = .int b from h'); rfl
    | str b => cases (show u = .str b from h'); rfl
    | _ => cases f'
  | str b => cases (show v = .str b from h); cases e with
    | non => cases (show u = .non from h'); rfl
    | bl b => cases (show u = .bl b from h'); rfl
    | int b => cases (show u = .int b from h'); rfl
    | str b => cases (show u = .str b from h'); rfl
    | _ => cases f'
  | _ => cases f
/-- d is one of l -/
def inD (d : D) (l : List D) : Bool := l.any fun y => deq y d
theorem flats_v {K : PySem.W.Frag} {H : Hp} : ∀ {l : List D} {vs : List V}, l.all D.flat = true → Rps K H l vs → vs.all flatV = true
  | [], _, _, h => by rw [show _ = [] from h]; rfl
  | d :: ds, _, f, ⟨v, r, h1, h2, h3⟩ => by
    rw [List.all_cons, Bool.and_eq_true] at f
    rw [h1, List.all_cons, flat_v f.1 h2, flats_v f.2 h3]; rfl
theorem in_v {K : PySem.W.Frag} {H : Hp} {d : D} {v : V} (fd : d.flat = true) (hd : Rp K H d v) : ∀ {l : List D} {vs : List V}, l.all D.flat = true → Rps K H l vs → inV v vs = inD d l
  | [], _, _, h => by rw [show _ = [] from h]; rfl
  | x :: xs, _, f, ⟨u, r, h1, h2, h3⟩ => by
    rw [List.all_cons, Bool.and_eq_true] at f
    have ih := in_v fd hd f.2 h3
    rw [h1]
    show (eqV u v || inV v r) = (deq x d || inD d xs)
    rw [ih, eq_v f.1 fd h2 hd]
theorem wo_in {l : List D} (s2 : Sn c w2 (.lst l) ∨ w2 = .im (.tup l)) (f : d.flat = true) (fl : l.all D.flat = true) (q : Q (.im (.bl (inD d l))) c) : WO Y (compareOp .In) (.im d) w2 c Q := fun κ a b e o rx ry Q' G => by
  have rx' := Rp.ex o.ex d (show Rp Y.X.K κ.I d a from rx)
  rcases s2 with s2 | rfl
  · obtain ⟨p, vs, rfl, g1, g2⟩ := s2.rp e o ry
    exact OpR.w op_in_seq ⟨p, vs, rfl, .inl (SqL.of g1), flat_v f rx, flats_v fl g2, by rw [if_neg Bool.false_ne_true, in_v f rx' fl g2]; exact G (.bl _) (.im (.bl (inD d l))) κ (.refl _) o rfl (by rw [e]; exact q)⟩
  · obtain ⟨p, vs, rfl, g1, g2⟩ := Rp.ex o.ex (.tup l) ry
    exact OpR.w op_in_seq ⟨p, vs, rfl, .inr g1, flat_v f rx, flats_v fl g2, by rw [if_neg Bool.false_ne_true, in_v f rx' fl g2]; exact G (.bl _) (.im (.bl (inD d l))) κ (.refl _) o rfl (by rw [e]; exact q)⟩
theorem wo_notIn {l : List D} (s2 : Sn c w2 (.lst l) ∨ w2 = .im (.tup l)) (f : d.flat = true) (fl : l.all D.flat = true) (q : Q (.im (.bl (!inD d l))) c) : WO Y (compareOp .NotIn) (.im d) w2 c Q := fun κ a b e o rx ry Q' G => by
  have rx' := Rp.ex o.ex d (show Rp Y.X.K κ.I d a from rx)
  rcases s2 with s2 | rfl
  · obtain ⟨p, vs, rfl, g1, g2⟩ := s2.rp e o ry
    exact OpR.w op_notIn_seq ⟨p, vs, rfl, .inl (SqL.of g1), flat_v f rx, flats_v fl g2, by rw [if_pos rfl, in_v f rx' fl g2]; exact G (.bl _) (.im (.bl (!inD d l))) κ (.refl _) o rfl (by rw [e]; exact q)⟩
  · obtain ⟨p, vs, rfl, g1, g2⟩ := Rp.ex o.ex (.tup l) ry
    exact OpR.w op_notIn_seq ⟨p, vs, rfl, .inr g1, flat_v f rx, flats_v fl g2, by rw [if_pos rfl, in_v f rx' fl g2]; exact G (.bl _) (.im (.bl (!inD d l))) κ (.refl _) o rfl (by rw [e]; exact q)⟩
end
/-! ### lists, tuples -/
section
variable {l m : List D}
theorem wo_catT (h : l.length + m.length ≤ 1000000) (q : Q (.im (.tup (l ++ m))) c) : WO Y (binaryOp .Add) (.im (.tup l)) (.im (.tup m)) c Q := fun κ a b e o rx ry Q' G => by
  obtain ⟨p, vs, rfl, g1, g2⟩ := rx
  obtain ⟨p', vs', rfl, g1', g2'⟩ := ry
  refine OpR.w op_catA ⟨p, p', vs, vs', rfl, rfl, ex_t o.ex g1, ex_t o.ex g1', by rw [g2.len, g2'.len]; exact sz_of h, fun z => ?_, fun _ z => ?_, fun _ _ r hr => ?_⟩
  · have : l = [] := by
      have := g2.len; rw [z] at this
      exact List.eq_nil_of_length_eq_zero this.symm
    subst this
    exact G _ (.im (.tup m)) κ (.refl _) o ⟨p', vs', rfl, g1', g2'⟩ (by rw [e]; exact q)
  · have : m = [] := by
      have := g2'.len; rw [z] at this
      exact List.eq_nil_of_length_eq_zero this.symm
    subst this
    rw [List.append_nil] at q
    exact G _ (.im (.tup l)) κ (.refl _) o ⟨p, vs, rfl, g1, g2⟩ (by rw [e]; exact q)
  · obtain ⟨l2, o2, rp⟩ := new_tup o hr (Rps.append g2 g2')
    exact G _ (.im (.tup (l ++ m))) _ l2 o2 rp (by rw [← e] at q; exact q)
theorem Rps.rep {K : PySem.W.Frag} {I : Hp} {vs : List V} (h : Rps K I l vs) : ∀ k : Nat, Rps K I (List.replicate k l).flatten (List.replicate k vs).flatten
  | 0 => Rps.nil
  | k + 1 => by rw [List.replicate_succ, List.replicate_succ, List.flatten_cons, List.flatten_cons]; exact Rps.append h (Rps.rep h k)
theorem wo_repL {k : Int} (s1 : Sn c w1 (.lst l)) (h : -(2 ^ 63) ≤ k ∧ k < 2 ^ 63) (hz : l.length * k.toNat ≤ 1000000) (q : Q (.im (.lst (List.replicate k.toNat l).flatten)) c) : WO Y (binaryOp .Mult) w1 (.im (.int k)) c Q := fun κ a b e o rx ry Q' G => by
  obtain ⟨p, vs, rfl, g1, g2⟩ := s1.lstI e o rx
  refine OpR.w op_rep ⟨p, k, vs, rfl, ry, g1, h.1, h.2, by rw [g2.len]; exact sz_of hz, fun r hr => ?_⟩
  obtain ⟨l2, o2, rp⟩ := new_lst o hr (Rps.rep g2 k.toNat)
  exact G _ (.im (.lst (List.replicate k.toNat l).flatten)) _ l2 o2 rp (by rw [← e] at q; exact q)
theorem wo_catC (s1 : Sn c w1 (.lst l)) (s2 : Sn c w2 (.lst m)) (h : l.length + m.length ≤ 1000000) (q : Q (.ce c.length) (c ++ [.lst (l ++ m)])) : WO Y (binaryOp .Add) w1 w2 c Q := fun κ a b e o rx ry Q' G => by
  obtain ⟨p, vs, rfl, g1, g2⟩ := s1.lstI e o rx
  obtain ⟨p', vs', rfl, g1', g2'⟩ := s2.lstI e o ry
  refine OpR.w op_cat ⟨p, p', vs, vs', rfl, rfl, g1, g1', by rw [g2.len, g2'.len]; exact sz_of h, fun r hr => ?_⟩
  obtain ⟨l2, o2, rp⟩ := new_cel o hr (Rps.append g2 g2')
  exact G _ (.ce κ.c.length) _ l2 o2 rp (by rw [← e] at q; exact q)
/-- items -/
theorem at_v {K : PySem.W.Frag} {I : Hp} {vs : List V} {i : Int} {d : D} (g : Rps K I l vs) (h : atI l i = some d) : ∃ v, atI vs i = some v ∧ Rp K I d v := by
  unfold atI at *
  rw [g.len]
  cases hx : ixN l.length i with
  | none => rw [hx] at h; cases h
  | some j =>
    rw [hx] at h
    exact g.get (show l[j]? = some d from h)
theorem wix_lst {i : Int} {d : D} (s1 : Sn c w1 (.lst l)) (h : atI l i = some d) (q : Q (.im d) c) : WIx Y w1 (.im (.int i)) c Q := fun κ a b e o rx ry Q' G => by
  obtain ⟨p, vs, rfl, g1, g2⟩ := s1.lstI e o rx
  obtain ⟨v, h1, h2⟩ := at_v g2 h
  exact IxR.w ix_list ⟨p, vs, i, v, rfl, ry, SqL.of g1, h1, G v (.im d) κ (.refl _) o h2 (by rw [e]; exact q)⟩
theorem wix_tup {i : Int} {d : D} (h : atI l i = some d) (q : Q (.im d) c) : WIx Y (.im (.tup l)) (.im (.int i)) c Q := fun κ a b e o rx ry Q' G => by
  obtain ⟨p, vs, rfl, g1, g2⟩ := rx
  obtain ⟨v, h1, h2⟩ := at_v g2 h
  exact IxR.w ix_tup ⟨p, vs, i, v, rfl, ry, ex_t o.ex g1, h1, G v (.im d) κ (.refl _) o h2 (by rw [e]; exact q)⟩
end
/-! ### built-ins -/
def D.len : D → Option Nat
  | .str x => some x.length
  | .tup l => some l.length
  | .lst l => some l.length
  | _ => none
theorem wc_len {d : D} {n : Nat} (s1 : Sn c w d) (h : d.len = some n) (hz : n ≤ 1000000) (q : Q (.im (.int n)) c) : WC Y (.builtin "len") [w] c Q := fun κ xs e o r Q' G => by
  obtain ⟨v, rr, rfl, rv, hn⟩ := r
  have hn : rr = [] := hn
  subst hn
  have rp := s1.rp e o rv
  refine CallR.w call_len ⟨v, n, rfl, ?_, G (.int n) (.im (.int n)) κ (.refl _) o rfl (by rw [e]; exact q)⟩
  cases d with
  | str x =>
    have hh : n = x.length := by injection h with h; exact h.symm
    subst hh
    cases (show v = .str x from rp)
    exact ⟨sz_of hz, rfl⟩
  | tup l =>
    have hh : n = l.length := by injection h with h; exact h.symm
    obtain ⟨a, vs, rfl, g1, g2⟩ := rp
    exact .inr ⟨vs, g1, by rw [g2.len]; exact hh⟩
  | lst l =>
    have hh : n = l.length := by injection h with h; exact h.symm
    obtain ⟨a, vs, rfl, g1, g2⟩ := rp
    exact .inl ⟨vs, SqL.of g1, by rw [g2.len]; exact hh⟩
  | _ => cases h
theorem wc_1 {f : Value} {r : List V → Hp → VK → Prop} (hr : CallR Y.X f r) {d : D} (k : ∀ κ v Q', κ.c = c → κ.Ok Y.X.K → Rp Y.X.K κ.I d v → GoV Y κ Q' Q → r [v] κ.H Q') : WC Y f [.im d] c Q := fun κ xs e o r Q' G => by
  obtain ⟨v, rr, rfl, rv, hn⟩ := r
  have hn : rr = [] := hn
  subst hn
  exact CallR.w hr (k κ v Q' e o rv G)
theorem wc_int {i : Int} (q : Q (.im (.int i)) c) : WC Y (.type "int") [.im (.int i)] c Q := wc_1 call_int1 fun κ v Q' e o rv G => .inl ⟨i, by rw [show v = .int i from rv], G (.int i) (.im (.int i)) κ (.refl _) o rfl (by rw [e]; exact q)⟩
theorem wc_intB {k : Bool} (q : Q (.im (.int (if k then 1 else 0))) c) : WC Y (.type "int") [.im (.bl k)] c Q := wc_1 call_int1 fun κ v Q' e o rv G => .inr ⟨k, by rw [show v = .bl k from rv], G (.int _) (.im (.int (if k then 1 else 0))) κ (.refl _) o rfl (by rw [e]; exact q)⟩
theorem wc_abs {i : Int} (q : Q (.im (.int (if i < 0 then -i else i))) c) : WC Y (.builtin "abs") [.im (.int i)] c Q := wc_1 call_abs fun κ v Q' e o rv G => ⟨i, by rw [show v = .int i from rv], G (.int _) (.im (.int (if i < 0 then -i else i))) κ (.refl _) o rfl (by rw [e]; exact q)⟩
theorem wc_strI {i : Int} (h : i.natAbs.log2 < 1920) (q : Q (.im (.str (toString i))) c) : WC Y (.type "str") [.im (.int i)] c Q := wc_1 call_str_int fun κ v Q' e o rv G => ⟨i, by rw [show v = .int i from rv], h, G (.str _) (.im (.str (toString i))) κ (.refl _) o rfl (by rw [e]; exact q)⟩
theorem wc_s {f : Value} {r : List V → Hp → VK → Prop} (hr : CallR Y.X f r) {l : List D} (s1 : Sn c w (.lst l)) (k : ∀ κ a vs Q', κ.c = c → κ.Ok Y.X.K → κ.H a = some (.lst vs) → Rps Y.X.K κ.I l vs → GoV Y κ Q' Q → r [.ref a] κ.H Q') : WC Y f [w] c Q := fun κ xs e o r Q' G => by
  obtain ⟨v, rr, rfl, rv, hn⟩ := r
  have hn : rr = [] := hn
  subst hn
  obtain ⟨a, vs, rfl, g1, g2⟩ := s1.lstI e o rv
  exact CallR.w hr (k κ a vs Q' e o g1 g2 G)
theorem wc_all {bs : List Bool} (hcm : Y.X.calm = true) (s1 : Sn c w (.lst (bs.map D.bl))) (q : Q (.im (.bl (bs.all id))) c) : WC Y (.builtin "all") [w] c Q := wc_s (cr_all hcm) s1 fun κ a vs Q' e o g1 g2 G => ⟨a, bs, rfl, by rw [← g2.bls]; exact SqL.of g1, G (.bl _) (.im (.bl (bs.all id))) κ (.refl _) o rfl (by rw [e]; exact q)⟩
theorem wc_any {bs : List Bool} (hcm : Y.X.calm = true) (s1 : Sn c w (.lst (bs.map D.bl))) (q : Q (.im (.bl (bs.any id))) c) : WC Y (.builtin "any") [w] c Q := wc_s (cr_any hcm) s1 fun κ a vs Q' e o g1 g2 G => ⟨a, bs, rfl, by rw [← g2.bls]; exact SqL.of g1, G (.bl _) (.im (.bl (bs.any id))) κ (.refl _) o rfl (by rw [e]; exact q)⟩
theorem wc_max {ns : List Int} (hcm : Y.X.calm = true) (s1 : Sn c w (.lst (ns.map D.int))) (h : 0 < ns.length) (q : ∀ m, m ∈ ns → (∀ y ∈ ns, y ≤ m) → Q (.im (.int m)) c) : WC Y (.builtin "max") [w] c Q := wc_s (cr_max hcm) s1 fun κ a vs Q' e o g1 g2 G => ⟨a, ns, rfl, by rw [← g2.ints]; exact SqL.of g1, h, fun m h1 h2 => G (.int m) (.im (.int m)) κ (.refl _) o rfl (by rw [e]; exact q m h1 h2)⟩
theorem wc_min {ns : List Int} (hcm : Y.X.calm = true) (s1 : Sn c w (.lst (ns.map D.int))) (h : 0 < ns.length) (q : ∀ m, m ∈ ns → (∀ y ∈ ns, m ≤ y) → Q (.im (.int m)) c) : WC Y (.builtin "min") [w] c Q := wc_s (cr_min hcm) s1 fun κ a vs Q' e o g1 g2 G => ⟨a, ns, rfl, by rw [← g2.ints]; exact SqL.of g1, h, fun m h1 h2 => G (.int m) (.im (.int m)) κ (.refl _) o rfl (by rw [e]; exact q m h1 h2)⟩
theorem wc_max2 {i j : Int} (hcm : Y.X.calm = true) (q : Q (.im (.int (if j > i then j else i))) c) : WC Y (.builtin "max") [.im (.int i), .im (.int j)] c Q := fun κ xs e o r Q' G => by
  obtain ⟨v, rr, rfl, rv, v2, rr2, rfl, rv2, hn⟩ := r
  have hn : rr2 = [] := hn
  subst hn
  cases (show v = .int i from rv)
  cases (show v2 = .int j from rv2)
  exact CallR.w (call_max2 hcm) ⟨i, j, rfl, G (.int _) (.im (.int (if j > i then j else i))) κ (.refl _) o rfl (by rw [e]; exact q)⟩
theorem wc_tuple {l : List D} (s1 : Sn c w (.lst l)) (q : Q (.im (.tup l)) c) : WC Y (.type "tuple") [w] c Q := wc_s call_tuple_of s1 fun κ a vs Q' e o g1 g2 G => ⟨a, vs, rfl, .inl ⟨SqL.of g1, fun p hp => by
  obtain ⟨l2, o2, rp⟩ := new_tup o hp g2
  exact G _ (.im (.tup l)) _ l2 o2 rp (by rw [← e] at q; exact q)⟩⟩
theorem wc_listT {l : List D} (q : Q (.im (.lst l)) c) : WC Y (.type "list") [.im (.tup l)] c Q := wc_1 call_list_of fun κ v Q' e o rv G => by
  obtain ⟨a, vs, rfl, g1, g2⟩ := rv
  refine ⟨a, vs, rfl, .inr (ex_t o.ex g1), fun p hp => ?_⟩
  obtain ⟨l2, o2, rp⟩ := new_lst o hp g2
  exact G _ (.im (.lst l)) _ l2 o2 rp (by rw [← e] at q; exact q)
/-- the built-in type of data -/
def D.tyn : D → Option String
  | .non => some "NoneType"
  | .bl _ => some "bool"
  | .int _ => some "int"
  | .str _ => some "str"
  | .tup _ => some "tuple"
  | .lst _ => some "list"
  | .dic _ _ => some "dict"
  | .dct _ _ => some "dict"
  | _ => none
theorem tyx_v {K : PySem.W.Frag} {H : Hp} {d : D} {v : V} {a : String} (h : Rp K H d v) (t : d.tyn = some a) : TyX K H v (.type a) := by
  cases d with
  | non => cases (show v = .non from h); cases t; exact .base .non
  | bl b => cases (show v = .bl b from h); cases t; exact .base (.bl b)
  | int b => cases (show v = .int b from h); cases t; exact .base (.int b)
  | str b => cases (show v = .str b from h); cases t; exact .base (.str b)
  | tup l =>
    obtain ⟨p, vs, rfl, g1, _⟩ := h
    cases t
    rcases g1 with (g1 | ⟨o, g1⟩) | ⟨o, its, n, g1, g2, _⟩
    · exact .base (.tup g1)
    · exact .fTuple g1
    · exact .kTuple g1 g2
  | lst l => obtain ⟨p, vs, rfl, g1, _⟩ := h; cases t; exact .base (.lst g1)
  | dic ks l => obtain ⟨p, vs, rfl, g1, _⟩ := h; cases t; exact .base (.dK g1)
  | dct ks l => obtain ⟨p, vs, rfl, g1, _⟩ := h; cases t; exact .base (.dT g1)
  | _ => cases t
theorem wc_isi {d : D} {a T : String} {k : Bool} (s1 : Sn c w d) (h : d.tyn = some a) (hk : kitB a T = some k) (q : Q (.im (.bl k)) c) : WC Y (.builtin "isinstance") [w, .im (.ty T)] c Q := fun κ xs e o r Q' G => by
  obtain ⟨v, rr, rfl, rv, v2, rr2, rfl, rv2, hn⟩ := r
  have hn : rr2 = [] := hn
  subst hn
  cases (show v2 = .ty T from rv2)
  exact CallR.w call_isi ⟨v, .ty T, .type a, .type T, k, rfl, .ty T, tyx_v (s1.rp e o rv) h, kit_ty hk, G (.bl k) (.im (.bl k)) κ (.refl _) o rfl (by rw [e]; exact q)⟩
end
end WL
/-! Slices, subscripts, attributes, methods, instances, raise, try over plain data. -/
namespace WL
open PySem PySem.Spec PyProof.Rows L2
/-! ### subscripts of dicts -/
theorem ix_dict {X : Cx} (hu : X.A.units + 1 < cLine) : IxR X (fun x y H Q => ∃ a v, x = .ref a ∧ DGet H a y (some v) ∧ Q v H) := by
  intro value slice pins s σ H x y v u Q I rx ry h hs
  obtain ⟨a, z, rfl, g, q⟩ := h
  cases rx
  exact tail_any (dict_typeIs I g) PySem.F.slot_dict_getitem.lookup (d_getItem hu I g ry fun w' s' I' rw' => ⟨z, H, I', rw', q⟩) hs
theorem op_inDic {X : Cx} (hu : X.A.units + 1 < cLine) : OpR X (compareOp .In) (fun x y H Q => ∃ a o, y = .ref a ∧ DGet H a x o ∧ Q (.bl o.isSome) H) := by
  intro pins s σ H x y v u Q I rx ry h
  obtain ⟨a, o, rfl, g, q⟩ := h
  cases ry
  exact d_in hu I g rx fun s' I' => ⟨.bl o.isSome, H, I', rfl, q⟩
theorem op_notInDic {X : Cx} (hu : X.A.units + 1 < cLine) : OpR X (compareOp .NotIn) (fun x y H Q => ∃ a o, y = .ref a ∧ DGet H a x o ∧ Q (.bl (!o.isSome)) H) := by
  intro pins s σ H x y v u Q I rx ry h
  obtain ⟨a, o, rfl, g, q⟩ := h
  cases ry
  exact d_notIn hu I g rx fun s' I' => ⟨.bl (!o.isSome), H, I', rfl, q⟩
/-- what stands under a key -/
def atK {κ : Type} [DecidableEq κ] : List κ → List D → κ → Option D
  | k :: ks, d :: ds, j => if k = j then some d else atK ks ds j
  | _, _, _ => none
/-- .. stored -/
def putD {κ : Type} [DecidableEq κ] : List κ → List D → κ → D → List κ × List D
  | k :: ks, d :: ds, j, e => if k = j then (k :: ks, e :: ds) else ((k :: (putD ks ds j e).1), (d :: (putD ks ds j e).2))
  | _, _, j, e => ([j], [e])
theorem atK_v {κ : Type} [DecidableEq κ] {K : PySem.W.Frag} {I : Hp} : ∀ {ks : List κ} {l : List D} {vs : List V} (j : κ), ks.length = vs.length → Rps K I l vs →
    (∀ d, atK ks l j = some d → ∃ v, valV (ks.zip vs) j = some v ∧ Rp K I d v) ∧ (atK ks l j = none → valV (ks.zip vs) j = none)
  | [], l, vs, j, e, h => by
    have : vs = [] := List.eq_nil_of_length_eq_zero (by simpa using e.symm)
    subst this
    exact ⟨fun d hd => by simp [atK] at hd, fun _ => rfl⟩
  | k :: ks, [], vs, j, e, h => by rw [show vs = [] from h] at e; simp at e
  | k :: ks, d :: ds, _, j, e, ⟨v, r, h1, h2, h3⟩ => by
    subst h1
    have e' : ks.length = r.length := by simpa using e
    obtain ⟨ih1, ih2⟩ := atK_v j e' h3
    by_cases q : k = j
    · refine ⟨fun d' hd => ?_, fun hn => ?_⟩
      · rw [show atK (k :: ks) (d :: ds) j = if k = j then some d else atK ks ds j from rfl, if_pos q] at hd
        cases hd
        exact ⟨v, valV_pos q, h2⟩
      · rw [show atK (k :: ks) (d :: ds) j = if k = j then some d else atK ks ds j from rfl, if_pos q] at hn; cases hn
    · refine ⟨fun d' hd => ?_, fun hn => ?_⟩
      · rw [show atK (k :: ks) (d :: ds) j = if k = j then some d else atK ks ds j from rfl, if_neg q] at hd
        obtain ⟨v', g1, g2⟩ := ih1 d' hd
        exact ⟨v', by rw [List.zip_cons_cons, valV_neg q]; exact g1, g2⟩
      · rw [show atK (k :: ks) (d :: ds) j = if k = j then some d else atK ks ds j from rfl, if_neg q] at hn
        rw [List.zip_cons_cons, valV_neg q]; exact ih2 hn
theorem putK_cons {κ : Type} [DecidableEq κ] {p : κ × V} {r : List (κ × V)} {j : κ} {e : V} (hnd : (p.1 :: r.map (·.1)).Nodup) : putK (p :: r) j e = if p.1 = j then (p.1, e) :: r else p :: putK r j e := by
  have hp : p.1 ∉ r.map (·.1) := (List.nodup_cons.mp hnd).1
  unfold putK
  by_cases q : p.1 = j
  · rw [if_pos q]
    have : ((p :: r).any fun kv => decide (kv.1 = j)) = true := by simp [q]
    rw [if_pos this, List.map_cons, if_pos q]
    congr 1
    have : r.map (fun kv => if kv.1 = j then (kv.1, e) else kv) = r.map id := by
      apply List.map_congr_left
      intro kv hkv
      have : kv.1 ≠ j := fun z => hp (by rw [q, ← z]; exact List.mem_map_of_mem hkv)
      rw [if_neg this]; rfl
    rw [this, List.map_id]
  · rw [if_neg q]
    by_cases a : (r.any fun kv => decide (kv.1 = j)) = true
    · have : ((p :: r).any fun kv => decide (kv.1 = j)) = true := by rw [List.any_cons, a, Bool.or_true]
      rw [if_pos this, if_pos a, List.map_cons, if_neg q]
    · have : ¬ ((p :: r).any fun kv => decide (kv.1 = j)) = true := by
        rw [List.any_cons, decide_eq_false q, Bool.false_or]; exact a
      rw [if_neg this, if_neg a, List.cons_append]
theorem putD_v {κ : Type} [DecidableEq κ] {K : PySem.W.Frag} {I : Hp} : ∀ {ks : List κ} {l : List D} {vs : List V} (j : κ) {e : D} {u : V}, ks.Nodup → ks.length = vs.length → Rps K I l vs → Rp K I e u →
    ∃ ws, putK (ks.zip vs) j u = (putD ks l j e).1.zip ws ∧ (putD ks l j e).1.length = ws.length ∧ Rps K I (putD ks l j e).2 ws
  | [], l, vs, j, e, u, _, el, h, he => by
    have : vs = [] := List.eq_nil_of_length_eq_zero (by simpa using el.symm)
    subst this
    cases l with
    | nil => exact ⟨[u], rfl, rfl, Rps.cons he Rps.nil⟩
    | cons d ds => obtain ⟨_, _, z, _⟩ := h; cases z
  | k :: ks, [], vs, j, e, u, _, el, h, he => by rw [show vs = [] from h] at el; simp at el
  | k :: ks, d :: ds, _, j, e, u, nd, el, ⟨v, r, h1, h2, h3⟩, he => by
    subst h1
    have e' : ks.length = r.length := by simpa using el
    have nd' := (List.nodup_cons.mp nd).2
    have hm : (ks.zip r).map (·.1) = ks := by rw [List.map_fst_zip (by omega)]
    rw [List.zip_cons_cons, putK_cons (by rw [hm]; exact nd)]
    by_cases q : k = j
    · rw [if_pos q]
      refine ⟨u :: r, ?_, ?_, ?_⟩
      · rw [show putD (k :: ks) (d :: ds) j e = if k = j then (k :: ks, e :: ds) else ((k :: (putD ks ds j e).1), (d :: (putD ks ds j e).2)) from rfl, if_pos q]; rfl
      · rw [show putD (k :: ks) (d :: ds) j e = if k = j then (k :: ks, e :: ds) else ((k :: (putD ks ds j e).1), (d :: (putD ks ds j e).2)) from rfl, if_pos q]; simp [e']
      · rw [show putD (k :: ks) (d :: ds) j e = if k = j then (k :: ks, e :: ds) else ((k :: (putD ks ds j e).1), (d :: (putD ks ds j e).2)) from rfl, if_pos q]; exact Rps.cons he h3
    · rw [if_neg q]
      obtain ⟨ws, g1, g2, g3⟩ := putD_v j nd' e' h3 he
      refine ⟨v :: ws, ?_, ?_, ?_⟩
      · rw [show putD (k :: ks) (d :: ds) j e = if k = j then (k :: ks, e :: ds) else ((k :: (putD ks ds j e).1), (d :: (putD ks ds j e).2)) from rfl, if_neg q, g1]; rfl
      · rw [show putD (k :: ks) (d :: ds) j e = if k = j then (k :: ks, e :: ds) else ((k :: (putD ks ds j e).1), (d :: (putD ks ds j e).2)) from rfl, if_neg q]; simp [g2]
      · rw [show putD (k :: ks) (d :: ds) j e = if k = j then (k :: ks, e :: ds) else ((k :: (putD ks ds j e).1), (d :: (putD ks ds j e).2)) from rfl, if_neg q]; exact Rps.cons h2 g3
/-! ### o[i] = v -/
def wSet (X : Cx) : TSet := fun o i v H Q => ∀ (pins : List (Addr × Obj)) (s : Shared) (σ : L2.St) (ov iv u : Value), Inv X pins σ H s → RelV o ov → RelV i iv → RelV v u → wpAny (model X.prog X.w) X.A (setItem ov iv u) (fun _ s' => ∃ H', Inv X pins σ H' s' ∧ Q H') X.xe s
theorem pset_w {X : Cx} : PSet X (wSet X) := fun pins s σ H o i v ov iv u Q I r1 r2 r3 h => h pins s σ ov iv u I r1 r2 r3
theorem PSet.w {X : Cx} {t : TSet} {o i v : V} {H : Hp} {Q : Hp → Prop} (h : PSet X t) (q : t o i v H Q) : wSet X o i v H Q := fun pins s σ ov iv u I r1 r2 r3 => h pins s σ H o i v ov iv u Q I r1 r2 r3 q
def wSl (X : Cx) : V → Option Int → Option Int → Hp → VK → Prop := fun x lo hi H Q => ∀ (pins : List (Addr × Obj)) (s : Shared) (σ : L2.St) (v vl vu : Value) (sl : Addr), Inv X pins σ H s → RelV x v → s.heap.IsSliceOf sl vl vu .none → IsPart vl lo → IsPart vu hi →
    ∃ T id, typeLookup (.type T) "__getitem__" = pure (some (.builtin id)) ∧ s.TypeIs v T ∧ wpAny (model X.prog X.w) X.A (getItem v (.ref sl)) (EP X pins σ Q) X.xe s
theorem sl_w {X : Cx} : SlR X (wSl X) := fun pins s σ H x v vl vu lo hi sl Q I rx hs pl pu h => h pins s σ v vl vu sl I rx hs pl pu
theorem SlR.w {X : Cx} {r : V → Option Int → Option Int → Hp → VK → Prop} {x : V} {lo hi : Option Int} {H : Hp} {Q : VK} (h : SlR X r) (q : r x lo hi H Q) : wSl X x lo hi H Q := fun pins s σ v vl vu sl I rx hs pl pu => h pins s σ H x v vl vu lo hi sl Q I rx hs pl pu q
section
variable {Y : Cy} {c : List Cell} {Q : KQ} {w w1 w2 : W}
def D.key : D → Option Key
  | .int i => some (.inl i)
  | .str x => some (.inr x)
  | _ => none
theorem key_v {K : PySem.W.Frag} {H : Hp} {d : D} {v : V} {k : Key} (hk : d.key = some k) (h : Rp K H d v) : v = kV k := by
  cases d with
  | int i => cases (show v = .int i from h); cases hk; rfl
  | str i => cases (show v = .str i from h); cases hk; rfl
  | _ => cases hk
theorem wix_dic {ks : List Key} {l : List D} {d e : D} {k : Key} (hu : Y.X.A.units + 1 < cLine) (s1 : Sn c w1 (.dic ks l)) (hk : d.key = some k) (h : atK ks l k = some e) (q : Q (.im e) c) : WIx Y w1 (.im d) c Q := fun κ a b ec o rx ry Q' G => by
  obtain ⟨p, vs, rfl, g1, g2, g3⟩ := s1.dicI ec o rx
  obtain ⟨v, h1, h2⟩ := (atK_v k g2 g3).1 e h
  cases key_v hk (show Rp Y.X.K κ.I d b from ry)
  exact IxR.w (ix_dict hu) ⟨p, v, rfl, by rw [← h1]; exact DGet.k g1, G v (.im e) κ (.refl _) o h2 (by rw [ec]; exact q)⟩
theorem dget_some {K : PySem.W.Frag} {I : Hp} {ks : List Key} {l : List D} {vs : List V} (k : Key) (g2 : ks.length = vs.length) (g3 : Rps K I l vs) : (valV (ks.zip vs) k).isSome = (atK ks l k).isSome := by
  cases h : atK ks l k with
  | none => rw [(atK_v k g2 g3).2 h]; rfl
  | some d =>
    obtain ⟨v, h1, _⟩ := (atK_v k g2 g3).1 d h
    rw [h1]; rfl
theorem wo_inDic {ks : List Key} {l : List D} {d : D} {k : Key} (hu : Y.X.A.units + 1 < cLine) (s2 : Sn c w2 (.dic ks l)) (hk : d.key = some k) (q : Q (.im (.bl (atK ks l k).isSome)) c) : WO Y (compareOp .In) (.im d) w2 c Q := fun κ a b ec o rx ry Q' G => by
  obtain ⟨p, vs, rfl, g1, g2, g3⟩ := s2.dicI ec o ry
  cases key_v hk (show Rp Y.X.K κ.I d a from rx)
  exact OpR.w (op_inDic hu) ⟨p, valV (ks.zip vs) k, rfl, DGet.k g1, by rw [dget_some k g2 g3]; exact G (.bl _) (.im (.bl (atK ks l k).isSome)) κ (.refl _) o rfl (by rw [ec]; exact q)⟩
theorem wo_notInDic {ks : List Key} {l : List D} {d : D} {k : Key} (hu : Y.X.A.units + 1 < cLine) (s2 : Sn c w2 (.dic ks l)) (hk : d.key = some k) (q : Q (.im (.bl (!(atK ks l k).isSome))) c) : WO Y (compareOp .NotIn) (.im d) w2 c Q := fun κ a b ec o rx ry Q' G => by
  obtain ⟨p, vs, rfl, g1, g2, g3⟩ := s2.dicI ec o ry
  cases key_v hk (show Rp Y.X.K κ.I d a from rx)
  exact OpR.w (op_notInDic hu) ⟨p, valV (ks.zip vs) k, rfl, DGet.k g1, by rw [dget_some k g2 g3]; exact G (.bl _) (.im (.bl (!(atK ks l k).isSome))) κ (.refl _) o rfl (by rw [ec]; exact q)⟩
/-- the value, then the object, then the place -/
def WSet (Y : Cy) (wv wo wi : W) (c : List Cell) (Q : List Cell → Prop) : Prop := ∀ (κ : Wd) (v o i : V), κ.c = c → κ.Ok Y.X.K → RW Y.X.K κ.I κ.th wv v → RW Y.X.K κ.I κ.th wo o → RW Y.X.K κ.I κ.th wi i → ∀ Q' : Hp → Prop, (∀ κ' : Wd, κ.le κ' → κ'.Ok Y.X.K → Q κ'.c → Q' κ'.H) → wSet Y.X o i v κ.H Q'
theorem wset_lst {n j : Nat} {l : List D} {i : Int} {d : D} {QC : List Cell → Prop} (hc : c[n]? = some (.lst l)) (hj : ixN l.length i = some j) (q : QC (c.set n (.lst (l.set j d)))) : WSet Y (.im d) (.ce n) (.im (.int i)) c QC := fun κ v o i' ec ok rv ro ri Q' G => by
  subst ec
  obtain ⟨a, ha, rfl⟩ := ro
  obtain ⟨vs, g1, g2⟩ := ok.cl n a _ ha hc
  refine PSet.w set_list ⟨a, vs, i, j, rfl, ri, g1, by rw [g2.len]; exact hj, ?_⟩
  exact G ⟨κ.I, upd κ.H a (.lst (vs.set j v)), κ.th, κ.c.set n (.lst (l.set j d))⟩ (Wd.put_le ok ha) (ok.put ha ⟨vs.set j v, upd_same, Rps.set j g2 rv⟩) q
def rSetD : TSet := fun o i v H Q => ∃ a H', o = .ref a ∧ DPut H a i v H' ∧ Q H'
theorem set_dic {X : Cx} (hu : X.A.units + 1 < cLine) : PSet X rSetD := fun pins s σ H o i v ov iv u Q I r1 r2 r3 ⟨a, H', e, g, q⟩ => by
  subst e
  cases r1
  exact d_setItem hu I g r2 r3 fun s' I' => ⟨H', I', q⟩
theorem wset_dic {n : Nat} {ks : List Key} {l : List D} {d e : D} {k : Key} {QC : List Cell → Prop} (hu : Y.X.A.units + 1 < cLine) (hc : c[n]? = some (.dic ks l)) (nd : ks.Nodup) (hz : ks.length < 1000000) (hk : d.key = some k) (q : QC (c.set n (.dic (putD ks l k e).1 (putD ks l k e).2))) : WSet Y (.im e) (.ce n) (.im d) c QC := fun κ v o i' ec ok rv ro ri Q' G => by
  subst ec
  obtain ⟨a, ha, rfl⟩ := ro
  obtain ⟨vs, g1, g2, g3⟩ := ok.cl n a _ ha hc
  cases key_v hk (show Rp Y.X.K κ.I d i' from ri)
  obtain ⟨ws, p1, p2, p3⟩ := putD_v k nd g2 g3 (show Rp Y.X.K κ.I e v from rv)
  have hl : (ks.zip vs).length < sizeLine := by rw [List.length_zip, g2, Nat.min_self, ← g2]; exact Nat.lt_of_lt_of_le hz (by decide)
  refine PSet.w (set_dic hu) ⟨a, upd κ.H a (.dK (putK (ks.zip vs) k v)), rfl, DPut.k g1 hl, ?_⟩
  exact G ⟨κ.I, upd κ.H a (.dK (putK (ks.zip vs) k v)), κ.th, κ.c.set n (.dic (putD ks l k e).1 (putD ks l k e).2)⟩ (Wd.put_le ok ha) (ok.put ha ⟨ws, by rw [← p1]; exact upd_same, p2, p3⟩) q
end
section
variable {Y : Cy} {n0 : Nat} {ρ : Ρ} {c : List Cell} {Z : EndsW} {pos : Pos}
theorem ws_sub {o i e : Expr} {pos' : Pos} (h : WE Y ρ c e fun wv c1 => WE Y ρ c1 o fun wo c2 => WE Y ρ c2 i fun wi c3 => WSet Y wv wo wi c3 fun c4 => Z.nx ρ c4) (hs : swapsWithSole [.Subscript o i pos'] e pos.line Y.X.env = pure false := by rfl) (hw : swappedStores [.Subscript o i pos'] e Y.X.env = pure none := by rfl)
    (ha : ∀ v, assign (.Subscript o i pos') Y.X.env v = (do
      let ov ← holding [v] (eval o Y.X.env)
      let iv ← holding [v, ov] (eval i Y.X.env)
      standAt pos'
      holding [v, ov, iv] (setItem ov iv v)
      release [v, ov, iv] []) := by intro _; rfl) (h1 : (assignEach [.Subscript o i pos'] Y.X.env).map (·.2) = [assign (.Subscript o i pos') Y.X.env] := by rfl) : WS Y n0 ρ c (.Assign [.Subscript o i pos'] e pos) Z := fun κ0 κ σ h0 l hc ok r De E =>
  PS.w (ps_asg pe_w (pg_sub pe_w pe_w pset_w ha) hs hw h1) (h.bind hc ok r (E.gox l r) fun v wv κ1 l1 o1 r1 g1 rw1 q1 => q1.bind rfl o1 r1 g1 fun vo wo κ2 l2 o2 r2 g2 rw2 q2 => q2.bind rfl o2 r2 g2 fun vi wi κ3 l3 o3 r3 g3 rw3 q3 =>
    q3 κ3 v vo vi rfl o3 ((rw1.le l2).le l3) (rw2.le l3) rw3 _ fun κ4 l4 o4 q => E.nx σ κ4 ρ ((((l.trans l1).trans l2).trans l3).trans l4) o4 (r3.le l4) q)
/-! ### slices -/
def WPo (Y : Cy) (ρ : Ρ) (c : List Cell) (o : Option Expr) (Q : Option Int → List Cell → Prop) : Prop := match o with
  | none => Q none c
  | some e => WE Y ρ c e fun w c1 => ∃ i, w = .im (.int i) ∧ Q (some i) c1
def WSl (Y : Cy) (w : W) (lo hi : Option Int) (c : List Cell) (Q : KQ) : Prop := ∀ κ x, κ.c = c → κ.Ok Y.X.K → RW Y.X.K κ.I κ.th w x → ∀ Q', GoV Y κ Q' Q → wSl Y.X x lo hi κ.H Q'
variable {Q : KQ} {w : W}
def wPo (X : Cx) : Option Expr → TO
  | none => tNoPart
  | some e => tPart (wE X e)
theorem po_w {X : Cx} : ∀ {o : Option Expr}, PO X o (wPo X o)
  | none => po_none
  | some _ => po_some pe_w
theorem we_slice {a : Expr} {lo hi : Option Expr} {p2 : Pos} (h : WE Y ρ c a fun w c1 => WPo Y ρ c1 lo fun l c2 => WPo Y ρ c2 hi fun u c3 => WSl Y w l u c3 Q) : WE Y ρ c (.Subscript a (.Slice lo hi none p2) pos) Q := fun κ σ hc o r g Q' G => by
  refine PE.w (pe_slice sl_w pe_w po_w po_w) (h.bind hc o r g fun v w κ1 l1 o1 r1 g1 rw1 q1 => ?_)
  have hiGo : ∀ (l : Option Int) (κ2 : Wd), κ1.le κ2 → κ2.Ok Y.X.K → REnv Y.X.K κ2 σ ρ → GoX Y κ2 σ ρ → (WPo Y ρ κ2.c hi fun u c3 => WSl Y w l u c3 Q) → wPo Y.X hi σ κ2.H fun u H3 => wSl Y.X v l u H3 Q' := by
    intro l κ2 l2 o2 r2 g2 q2
    cases hi with
    | none => exact q2 κ2 v rfl o2 (rw1.le l2) Q' (GoV.le G (l1.trans l2))
    | some e =>
      refine WE.bind q2 rfl o2 r2 g2 fun v3 w3 κ3 l3 o3 r3 g3 rw3 ⟨i, e3, q3⟩ => ?_
      subst e3
      exact ⟨i, rw3, q3 κ3 v rfl o3 ((rw1.le l2).le l3) Q' (GoV.le G ((l1.trans l2).trans l3))⟩
  cases lo with
  | none => exact hiGo none κ1 (.refl _) o1 r1 g1 q1
  | some e =>
    refine WE.bind q1 rfl o1 r1 g1 fun v2 w2 κ2 l2 o2 r2 g2 rw2 ⟨i, e2, q2⟩ => ?_
    subst e2
    exact ⟨i, rw2, hiGo (some i) κ2 l2 o2 r2 g2 q2⟩
def cutD (l : List D) (lo hi : Option Int) : List D := (l.drop (HT.sIx l.length 0 lo)).take (HT.sIx l.length l.length hi - HT.sIx l.length 0 lo)
theorem cut_v {K : PySem.W.Frag} {I : Hp} {l : List D} {vs : List V} (lo hi : Option Int) (h : Rps K I l vs) : Rps K I (cutD l lo hi) (cutV vs lo hi) := by
  unfold cutD cutV
  rw [h.len]
  exact Rps.take _ (Rps.drop _ h)
theorem wsl_lst {l : List D} {lo hi : Option Int} (s1 : Sn c w (.lst l)) (q : Q (.im (.lst (cutD l lo hi))) c) : WSl Y w lo hi c Q := fun κ x e o rx Q' G => by
  obtain ⟨a, vs, rfl, g1, g2⟩ := s1.lstI e o rx
  refine SlR.w sl_list ⟨a, vs, rfl, SqL.of g1, fun p hp => ?_⟩
  obtain ⟨l2, o2, rp⟩ := new_lst o hp (cut_v lo hi g2)
  exact G _ (.im (.lst (cutD l lo hi))) _ l2 o2 rp (by rw [← e] at q; exact q)
theorem wsl_tup {l : List D} {lo hi : Option Int} (q : Q (.im (.tup (cutD l lo hi))) c) : WSl Y (.im (.tup l)) lo hi c Q := fun κ x e o rx Q' G => by
  obtain ⟨a, vs, rfl, g1, g2⟩ := rx
  refine SlR.w sl_tupA ⟨a, vs, rfl, ex_t o.ex g1, fun hw => ?_, fun hw p hp => ?_⟩
  · have : cutD l lo hi = l := by
      unfold cutD
      rw [g2.len] at hw
      rw [hw.1, hw.2, List.drop_zero, Nat.sub_zero, List.take_length]
    rw [this] at q
    exact G _ (.im (.tup l)) κ (.refl _) o ⟨a, vs, rfl, g1, g2⟩ (by rw [e]; exact q)
  · obtain ⟨l2, o2, rp⟩ := new_tup o hp (cut_v lo hi g2)
    exact G _ (.im (.tup (cutD l lo hi))) _ l2 o2 rp (by rw [← e] at q; exact q)
end
/-! ### t[::-1] -/
theorem sliceApplied_rev {prog : Program} {w : World} {A : Around} {E : Value → Shared → Prop} {s : Shared} {sl : Addr} {t : Tok} {n : Nat} {Q : Int × Int × Nat → Shared → Prop} (hs : s.heap.IsSliceOf sl .none .none (.int (-1) t))
    (h : Q ((n : Int) - 1, -1, n) s) : wpAny (model prog w) A (Builtin.Slice.sliceApplied (.ref sl) (pure (n : Int))) Q E s := by
  obtain ⟨os, hos, hcs, hds⟩ := id hs
  unfold Builtin.Slice.sliceApplied Builtin.Slice.sliceFields
  refine wpAny_bind (wpAny_bind (wpAny_field hos hds (x := .none) rfl (wpAny_bind (wpAny_field hos hds (x := .none) rfl (wpAny_bind (wpAny_field hos hds (x := .int (-1) t) rfl (wpAny_pure ?_)))))))
  refine wpAny_bind (slicePart_int ?_)
  show wpAny _ _ (if ((-1 : Int) == 0) = true then _ else _) _ _ s
  rw [if_neg (by decide)]
  refine wpAny_bind (slicePart_none (wpAny_bind (slicePart_none (wpAny_bind (wpAny_pure ?_)))))
  show wpAny _ _ (match Builtin.Slice.sliceAdjust none none (-1) (n : Int) with | (lo, hi) => pure (lo, (-1 : Int), Builtin.Slice.slicePlaces lo hi (-1))) _ _ s
  have e1 : Builtin.Slice.sliceAdjust none none (-1) (n : Int) = ((n : Int) - 1, -1) := rfl
  rw [e1]
  show wpAny _ _ (pure ((n : Int) - 1, (-1 : Int), Builtin.Slice.slicePlaces ((n : Int) - 1) (-1) (-1))) _ _ s
  have e2 : Builtin.Slice.slicePlaces ((n : Int) - 1) (-1) (-1) = n := by
    unfold Builtin.Slice.slicePlaces
    rw [if_neg (by decide), Int.neg_neg, Int.ediv_one]
    split <;> omega
  rw [e2]
  exact wpAny_pure h
theorem pick_rev (xs : Array Value) : ((List.range xs.size).filterMap fun (m : Nat) => xs[(((xs.size : Int) - 1) + (m : Int) * (-1)).toNat]?).toArray = xs.toList.reverse.toArray := by
  congr 1
  apply List.ext_getElem?
  intro i
  have gen : ∀ (f : Nat → Option Value) (g : Nat → Value) (n : Nat), (∀ m, m < n → f m = some (g m)) → (List.range n).filterMap f = (List.range n).map g := by
    intro f g n
    induction n with
    | zero => intro _; rfl
    | succ n ih =>
      intro h
      rw [List.range_succ, List.filterMap_append, List.map_append, ih fun m hm => h m (by omega)]
      congr 1
      show [n].filterMap f = [g n]
      rw [List.filterMap_cons, h n (by omega)]; rfl
  rw [gen _ (fun m => xs.toList.reverse.getD m .none) xs.size (fun m hm => by
    have e : (((xs.size : Int) - 1) + (m : Int) * (-1)).toNat = xs.size - 1 - m := by omega
    rw [e, List.getD_eq_getElem?_getD, List.getElem?_reverse (by simpa using hm), Array.length_toList]
    have : xs.size - 1 - m < xs.size := by omega
    simp [this])]
  by_cases hi : i < xs.size
  · rw [List.getElem?_map, List.getElem?_range hi]
    show some (xs.toList.reverse.getD i .none) = _
    rw [List.getD_eq_getElem?_getD, List.getElem?_eq_getElem (by simpa using hi)]
    rfl
  · rw [List.getElem?_eq_none (by simpa using hi), List.getElem?_eq_none (by simpa using hi)]
theorem getItem_tuple_rev {prog : Program} {w : World} {A : Around} {E : Value → Shared → Prop} {s : Shared} {t sl : Addr} {items : Array Value} {tk : Tok} {Q : Value → Shared → Prop} (ht : IsTup s.heap t items) (hs : s.heap.IsSliceOf sl .none .none (.int (-1) tk))
    (h : Q (.ref s.heap.objs.size) { s with heap := s.heap.push { cls := .type "tuple", data := .seq items.toList.reverse.toArray } })
    (hsz : items.size ≤ sizeLine) : wpAny (model prog w) A (getItem (.ref t) (.ref sl)) Q E s := by
  have htake : sizeOk (.seq items.toList.reverse.toArray) := by
    show items.toList.reverse.toArray.size ≤ sizeLine
    simpa using hsz
  obtain ⟨os, hos, hcs, hds⟩ := id hs
  have hTs : s.TypeIs (.ref sl) "slice" := ⟨os, hos, hcs⟩
  unfold getItem
  try with_reducible refine wpAny_holding ?_
  first | refine wpAny_bind (wpAny_pure ?_) | skip
  refine wpAny_bind (wpAny_sequenceKey ht.typeIs (by decide) ?_)
  refine wpAny_bind (wpAny_callSpecial?_slot (name := Str.ofString "__getitem__") ht.typeIs PyProof.Rows.slot_tuple_getitem
    (wpAny_call_entry PyProof.Rows.slot_tuple_getitem ht.typeIs entry_tuple_getitem ?_ (args_tuple_getitem _ _)))
  show wpAny _ _ (Builtin.Tuple.tupleItemsOf (.ref t) >>= _) _ _ s
  refine wpAny_bind (tupleItemsOf_ ht ?_)
  refine wpAny_bind (wpAny_typeOf hTs ?_)
  rw [if_pos (by decide)]
  refine wpAny_bind (sliceApplied_rev hs ?_)
  have hno : ¬ (((((items.size : Int) - 1) == 0 && (-1 : Int) == 1 && items.size == items.size)) = true) := by
    intro q
    rw [Bool.and_eq_true, Bool.and_eq_true] at q
    exact absurd q.1.2 (by decide)
  show wpAny _ _ (if ((((items.size : Int) - 1) == 0 && (-1 : Int) == 1 && items.size == items.size)) = true then _ else _) _ _ s
  rw [if_neg hno, pick_rev]
  first
    | exact wpAny_bind (m := Builtin.Tuple.tupleExact _) (wpAny_newObj_type (wpAny_pure ⟨_, rfl, wpAny_pure h⟩) htake)
    | exact wpAny_bind (m := Builtin.Tuple.tupleExact _) (wpAny_newObj_type (wpAny_bind (wpAny_pure (wpAny_pure ⟨_, rfl, wpAny_pure h⟩))) htake)
    | exact wpAny_bind (wpAny_bind (m := Builtin.Tuple.tupleExact _) (wpAny_newObj_type (wpAny_pure (wpAny_pure ⟨_, rfl, wpAny_pure h⟩)) htake))
    | exact wpAny_bind (wpAny_bind (m := Builtin.Tuple.tupleExact _) (wpAny_newObj_type (wpAny_pure ⟨_, rfl, wpAny_pure h⟩) htake))
def tRevT (K : PySem.W.Frag) (te : TE) : TE := fun σ H Q => te σ H fun x H1 => ∃ a xs, x = .ref a ∧ SqT K H1 a xs ∧ ∀ p, H1 p = none → Q (.ref p) (upd H1 p (.tup xs.reverse))
theorem pe_revT {X : Cx} {e : Expr} {te : TE} {k : Nat} {p1 p2 p3 pos : Pos} (he : PE X e te) : PE X (.Subscript e (.Slice none none (some (.UnaryOp .USub (.Constant (.int 1) k p1) p2)) p3) pos) (tRevT X.K te) := by
  refine ⟨fun pins s σ H Q I h => ?_⟩
  refine Subscript_ (thn (he.run pins s σ H _ I h) fun v s1 ⟨x, H1, I1, r1, q1⟩ => ?_)
  obtain ⟨a, xs, ex, hx, q⟩ := q1
  subst ex
  cases r1
  have hst : PE X (.UnaryOp .USub (.Constant (.int 1) k p1) p2) (tUn (rU fun i => .int (-i)) (tC (.int 1))) := pe_un un_neg pe_int
  refine wpAny_Slice ?_
  rw [evalPart_none]
  refine wpAny_pure (wpAny_pure ?_)
  rw [evalPart_some]
  refine thn (hst.run pins s1 σ H1 (fun o H4 => o = .int (-1) ∧ H4 = H1) I1 ⟨1, rfl, rfl, rfl⟩) fun vs s4 ⟨o, H4, I4, ps, eo, e4⟩ => ?_
  subst eo e4
  obtain ⟨t, rfl⟩ := ps
  have I5 : Inv X pins σ H4 { s4 with heap := s4.heap.push { cls := .type "slice", data := .fields #[.none, .none, .int (-1) t] } } := I4.kept (t' := s4.toks) fun b ob q => Heap.get?_push_of_some _ q
  obtain ⟨its, r, ht, hz⟩ := I5.tuple hx
  have hlen := r.length
  show wpAny (model X.prog X.w) X.A (subscriptTail e (.Slice none none (some (.UnaryOp .USub (.Constant (.int 1) k p1) p2)) p3) (.ref a) (.ref s4.heap.objs.size)) (EP X pins σ Q) X.xe { s4 with heap := s4.heap.push { cls := .type "slice", data := .fields #[.none, .none, .int (-1) t] } }
  refine tail_any (ops := [.ref a, .ref s4.heap.objs.size]) ht.typeIs PyProof.Rows.slot_tuple_getitem.lookup ?_ (by with_unfolding_all rfl)
  refine getItem_tuple_rev ht (Heap.IsSliceOf.new _ .none .none (.int (-1) t)) ?_ (by rw [List.size_toArray]; omega)
  refine ⟨.ref _, _, I5.laid (t' := s4.toks) (o := .tup xs.reverse) (fun b ob q => Heap.get?_push_of_some _ q) (Nat.le_refl _) ?_, rfl, q _ (I5.hok.fresh (Nat.le_refl _))⟩
  refine ⟨by rw [List.length_reverse]; exact hz, its.reverse, r.reverse, ?_⟩
  exact IsTup.new _ _
section
variable {Y : Cy} {ρ : Ρ} {c : List Cell} {Q : KQ} {pos : Pos}
theorem we_revT {a : Expr} {k : Nat} {p1 p2 p3 : Pos} (h : WE Y ρ c a fun w c1 => ∃ l, w = .im (.tup l) ∧ Q (.im (.tup l.reverse)) c1) : WE Y ρ c (.Subscript a (.Slice none none (some (.UnaryOp .USub (.Constant (.int 1) k p1) p2)) p3) pos) Q := fun κ σ hc o r g Q' G =>
  PE.w (pe_revT pe_w) (h.bind hc o r g fun v w κ1 l1 o1 r1 g1 rw1 ⟨l, e, q⟩ => by
    subst e
    obtain ⟨a, vs, rfl, g1, g2⟩ := rw1
    refine ⟨a, vs, rfl, ex_t o1.ex g1, fun p hp => ?_⟩
    obtain ⟨l2, o2, rp⟩ := new_tup o1 hp (Rps.rev g2)
    exact G _ (.im (.tup l.reverse)) _ (l1.trans l2) o2 rp q)
end
end WL
/-! Attributes, methods, instances, raise, try over plain data. -/
namespace WL
open PySem PySem.Spec PyProof.Rows L2
/-! ### a field -/
theorem lookup_neg {g x : Str} {v : V} {r : List (Str × V)} (h : ¬ g = x) : List.lookup x ((g, v) :: r) = r.lookup x := by
  have : (x == g) = false := by simpa using fun e => h e.symm
  simp [List.lookup, this]
theorem Rps.rws {K : PySem.W.Frag} {I : Hp} {th : List Addr} : ∀ {l : List D} {vs : List V}, Rps K I l vs → RWs K I th (l.map W.im) vs
  | [], _, h => h
  | d :: ds, _, ⟨v, r, h1, h2, h3⟩ => ⟨v, r, h1, h2, Rps.rws h3⟩
section
variable {Y : Cy} {n0 : Nat} {ρ : Ρ} {c : List Cell} {Z : EndsW} {Q : KQ} {pos : Pos}
/-- what an object holds: its class, its attributes -/
inductive Ob (c : List Cell) : W → Addr → List Str → List W → Prop where
  | im {C : Addr} {ns : List Str} {l : List D} : Ob c (.im (.obj C ns l)) C ns (l.map W.im)
  | ce {n : Nat} {C : Addr} {ns : List Str} {ws : List W} (h : c[n]? = some (.ins C ns ws)) : Ob c (.ce n) C ns ws
theorem Ob.at_ {K : PySem.W.Frag} {κ : Wd} {w : W} {C : Addr} {ns : List Str} {ws : List W} {v : V} (h : Ob c w C ns ws) (hc : κ.c = c) (o : κ.Ok K) (r : RW K κ.I κ.th w v) : ∃ a dx vs, v = .ref a ∧ κ.H a = some (.ins C dx (ns.zip vs)) ∧ ns.length = vs.length ∧ RWs K κ.I κ.th ws vs := by
  subst hc
  cases h with
  | im =>
    obtain ⟨a, dx, vs, rfl, g1, g2, g3⟩ := r
    exact ⟨a, dx, vs, rfl, o.ex _ _ g1, g2, Rps.rws g3⟩
  | ce h =>
    obtain ⟨a, ha, rfl⟩ := r
    obtain ⟨dx, vs, g1, g2, g3⟩ := o.cl _ a _ ha h
    exact ⟨a, dx, vs, rfl, g1, g2, g3⟩
/-! ### methods of built-in types -/
theorem we_bm {o e : Expr} {es : List Expr} {name : Str} {apos cpos : Pos} {T id : String} (pa : PlainAttrs T) (slot : Slot T name id) (hty : typeOf (.builtin id) = pure (.type "method_descriptor"))
    (h : WE Y ρ c o fun w c1 => ∃ d, Sn c1 w d ∧ (T = "list" ∧ (∃ l, d = .lst l) ∨ T = "str" ∧ ∃ x, d = .str x) ∧ WA Y ρ c1 (e :: es) fun ws c2 => WM Y id w ws c2 Q)
    (hbase : attributeBase o name Y.X.env (eval o Y.X.env) = eval o Y.X.env := by rfl)
    (hfew : ((backTo cpos (starEach (e :: es) Y.X.env)).all (fun x => !x.1) && (backToKw cpos (keywordEach [] Y.X.env)).all (fun x => x.1.isSome)
      && decide ((e :: es).length + ([] : List Keyword).length + (if ([] : List Keyword).isEmpty then 0 else 1) < 30)) = true := by rfl)
    (hline : (apos.endLine == cpos.line) = true := by rfl) (hs : starEach (e :: es) Y.X.env = (false, eval e Y.X.env) :: starEach es Y.X.env := by rfl) (hplain : (backTo cpos (starEach es Y.X.env)).any (·.1) = false := by rfl) :
    WE Y ρ c (.Call (.Attribute o name apos) (e :: es) [] cpos) Q := fun κ σ hc ok r g Q' G =>
  PE.w (pe_bm pa slot hty mt_w pe_w pa_w hbase hfew hline hs hplain) (h.bind hc ok r g fun v w κ1 l1 o1 r1 g1 rw1 ⟨d, sn, hd, q1⟩ => by
    refine ⟨?_, q1.bind rfl o1 r1 g1 fun vs ws κ2 l2 o2 r2 g2 rws q2 => q2 κ2 v vs rfl o2 (rw1.le l2) rws Q' (GoV.le G (l1.trans l2))⟩
    rcases hd with ⟨rfl, l, rfl⟩ | ⟨rfl, x, rfl⟩
    · obtain ⟨a, vs, rfl, k1, k2⟩ := sn.rp rfl o1 rw1
      exact .inl ⟨rfl, vs, SqL.of k1⟩
    · cases (show v = .str x from sn.rp rfl o1 rw1)
      rfl)
theorem we_bm0 {o : Expr} {name : Str} {apos cpos : Pos} {T id : String} (pa : PlainAttrs T) (slot : Slot T name id) (hty : typeOf (.builtin id) = pure (.type "method_descriptor"))
    (h : WE Y ρ c o fun w c1 => ∃ d, Sn c1 w d ∧ (T = "list" ∧ (∃ l, d = .lst l) ∨ T = "str" ∧ ∃ x, d = .str x) ∧ WM Y id w [] c1 Q)
    (hbase : attributeBase o name Y.X.env (eval o Y.X.env) = eval o Y.X.env := by rfl) (hline : (apos.endLine == cpos.line) = true := by rfl) : WE Y ρ c (.Call (.Attribute o name apos) [] [] cpos) Q := fun κ σ hc ok r g Q' G =>
  PE.w (pe_bm0 pa slot hty mt_w pe_w hbase hline) (h.bind hc ok r g fun v w κ1 l1 o1 r1 g1 rw1 ⟨d, sn, hd, q1⟩ => by
    refine ⟨?_, q1 κ1 v [] rfl o1 rw1 rfl Q' (GoV.le G l1)⟩
    rcases hd with ⟨rfl, l, rfl⟩ | ⟨rfl, x, rfl⟩
    · obtain ⟨a, vs, rfl, k1, k2⟩ := sn.rp rfl o1 rw1
      exact .inl ⟨rfl, vs, SqL.of k1⟩
    · cases (show v = .str x from sn.rp rfl o1 rw1)
      rfl)
theorem wm_append {n : Nat} {l : List D} {d : D} (hc : c[n]? = some (.lst l)) (hz : l.length < 1000000) (q : Q (.im .non) (c.set n (.lst (l ++ [d])))) : WM Y "list.append" (.ce n) [.im d] c Q := fun κ x xs ec ok rx rs Q' G => by
  subst ec
  obtain ⟨a, ha, rfl⟩ := rx
  obtain ⟨vs, g1, g2⟩ := ok.cl n a _ ha hc
  obtain ⟨v, rr, rfl, rv, hn⟩ := rs
  have hn : rr = [] := hn
  subst hn
  refine MtR.w mt_append ⟨a, vs, v, rfl, rfl, g1, by rw [g2.len]; exact Nat.lt_of_lt_of_le hz (by decide), ?_⟩
  exact G .non (.im .non) ⟨κ.I, upd κ.H a (.lst (vs ++ [v])), κ.th, κ.c.set n (.lst (l ++ [d]))⟩ (Wd.put_le ok ha) (ok.put ha ⟨vs ++ [v], upd_same, Rps.snoc g2 rv⟩) rfl q
theorem Rps.dropLast {K : PySem.W.Frag} {I : Hp} {l : List D} {vs : List V} (h : Rps K I l vs) : Rps K I l.dropLast vs.dropLast := by
  rw [List.dropLast_eq_take, List.dropLast_eq_take, h.len]; exact Rps.take _ h
theorem wm_pop {n : Nat} {l : List D} {d : D} (hc : c[n]? = some (.lst l)) (hd : l[l.length - 1]? = some d) (q : Q (.im d) (c.set n (.lst l.dropLast))) : WM Y "list.pop" (.ce n) [] c Q := fun κ x xs ec ok rx rs Q' G => by
  subst ec
  obtain ⟨a, ha, rfl⟩ := rx
  obtain ⟨vs, g1, g2⟩ := ok.cl n a _ ha hc
  have hn : xs = [] := rs
  subst hn
  obtain ⟨v, h1, h2⟩ := g2.get hd
  refine MtR.w mt_pop ⟨a, vs, v, rfl, rfl, g1, by rw [g2.len]; exact h1, ?_⟩
  exact G v (.im d) ⟨κ.I, upd κ.H a (.lst vs.dropLast), κ.th, κ.c.set n (.lst l.dropLast)⟩ (Wd.put_le ok ha) (ok.put ha ⟨vs.dropLast, upd_same, Rps.dropLast g2⟩) h2 q
theorem Rps.erase {K : PySem.W.Frag} {I : Hp} : ∀ (i : Nat) {l : List D} {vs : List V}, Rps K I l vs → Rps K I (l.eraseIdx i) (vs.eraseIdx i)
  | _, [], _, h => by rw [show _ = [] from h]; exact Rps.nil
  | 0, d :: ds, _, ⟨v, r, h1, h2, h3⟩ => by rw [h1]; exact h3
  | i + 1, d :: ds, _, ⟨v, r, h1, h2, h3⟩ => by rw [h1]; exact Rps.cons h2 (Rps.erase i h3)
theorem wm_popAt {n k : Nat} {l : List D} {i : Int} {d : D} (hc : c[n]? = some (.lst l)) (hi : -(2 ^ 63) ≤ i ∧ i < 2 ^ 63) (hk : seqIndex? i l.length = some k) (hd : l[k]? = some d) (q : Q (.im d) (c.set n (.lst (l.eraseIdx k)))) : WM Y "list.pop" (.ce n) [.im (.int i)] c Q := fun κ x xs ec ok rx rs Q' G => by
  subst ec
  obtain ⟨a, ha, rfl⟩ := rx
  obtain ⟨vs, g1, g2⟩ := ok.cl n a _ ha hc
  obtain ⟨v0, rr, rfl, rv, hn⟩ := rs
  have hn : rr = [] := hn
  subst hn
  cases (show v0 = .int i from rv)
  obtain ⟨v, h1, h2⟩ := g2.get hd
  refine MtR.w mt_popAt ⟨a, vs, i, k, v, rfl, rfl, g1, hi.1, hi.2, by rw [g2.len]; exact hk, h1, ?_⟩
  exact G v (.im d) ⟨κ.I, upd κ.H a (.lst (vs.eraseIdx k)), κ.th, κ.c.set n (.lst (l.eraseIdx k))⟩ (Wd.put_le ok ha) (ok.put ha ⟨vs.eraseIdx k, upd_same, Rps.erase k g2⟩) h2 q
/-! ### instances -/
/-! ### raise -/
/-- an exception class of one's own without __init__ -/
structure ExcC (K : PySem.W.Frag) (mg : Str → Option Value) (x : Str) (C : Addr) : Prop where
  g : mg x = some (.ref C)
  ex : PySem.W.excIn K C [.type "ValueError", .type "Exception", .type "BaseException", .type "object"] "ValueError.__new__" = true
  kp : PySem.W.keepIn K (.ref C) = true
  sb : PySem.W.subIn K (.ref C) (.type "BaseException") = some true
  ty : PySem.W.typeIn K (.ref C) = some (.type "type")
theorem pmk_own0 {X : Cx} {C : Addr} {x : Str} {p pos : Pos} {B newId initId : String} {bmB : List Value} (F : ExcBaseFacts B newId initId bmB) (q : PySem.W.excIn X.K C bmB newId = true) (gC : X.mg x = some (.ref C)) (kC : PySem.W.keepIn X.K (.ref C) = true) (r : Raises X (.ref C)) (hg : Gl X x)
    (hdb : (x == ("__debug__" : Str)) = false := by decide) : PMk X (.Call (.Name x p) [] [] pos) (fun _ H Q => Q (.ref C) none H) := by
  intro pins s σ H Q I h
  refine wpAny_Call_Name_kw (ld_glob I hg gC ?_ hdb)
  refine PySem.W.callWith_K0 I.kIn kC ?_
  show wpAny _ _ (call (.ref C) []) _ _ _
  obtain ⟨bm, N, nm, qn, bs, hdct, sn, sub, ab, col, dd, k0, k1, k2, k3, k5, mN, hC, hN, hni, T⟩ := exc_obj I.kIn q
  refine wpAny_call_exc_subT F T hC hN hni (fun h' e hm => ?_) (by show 0 ≤ sizeLine; exact Nat.zero_le _)
  exact mk_of I hm r h (I.hok.gone hm.new)
theorem ws_raise0 {x : Str} {C : Addr} {p pp : Pos} (hcm : Y.X.calm = true) (T : ExcC Y.X.K Y.X.mg x C) (hg : Gl Y.X x) (q : Y.Qx ⟨C, [], []⟩ ρ c) (hdb : (x == ("__debug__" : Str)) = false := by decide) : WS Y n0 ρ c (.Raise (some (.Call (.Name x p) [] [] pp)) none pos) Z := fun κ0 κ σ h0 l hc o r De E =>
  PS.w (ps_raise hcm Y.tk (pmk_own0 PySem.F.excBase_ValueError T.ex T.g T.kp (raises_own T.sb T.ty) hg hdb)) (E.ex ⟨C, [], []⟩ (.ref C) none σ κ ρ l o r ⟨rfl, .inl ⟨rfl, rfl, rfl⟩⟩ (by rw [hc]; exact q))
/-! ### try -/
def Cy.tr (Y : Cy) (pn : List (Addr × Obj)) (W : WX) (xe : Value → Shared → Prop) (tk : Takes (Y.X.tr pn xe) W) (po : PassesOwn (model Y.X.prog Y.X.w) Y.X.A Y.X.env xe) (Qx : Exn → Ρ → List Cell → Prop) : Cy := ⟨Y.X.tr pn xe, W, tk, po, Qx⟩
def Cy.suite (Y : Cy) (a : Addr) (pn : List (Addr × Obj)) : Cy := ⟨Y.X.suite a pn, fun _ _ _ _ => False, takes0, PassesOwn.never, fun _ _ _ => False⟩
def suiteT (Y : Cy) (s : List Stmt) : Addr → Value → Option Addr → TS := fun a cls d D σ H => ∀ (oe : Obj) (pn : List (Addr × Obj)), wSs (Y.X.suite a ((a, oe) :: pn)) s D σ H
def suitesT (Y : Cy) : List (Addr × List Stmt) → List (Value × (Addr → Value → Option Addr → TS))
  | [] => []
  | (C, s) :: r => (.ref C, suiteT Y s) :: suitesT Y r
/-- the clauses as they stand -/
inductive HdsW (X : Cx) : List ExceptHandler → List (Addr × List Stmt) → Prop
  | nil : HdsW X [] []
  | cons {x : Str} {C : Addr} {b₀ : Stmt} {suite : List Stmt} {np pos' : Pos} {hds : List ExceptHandler} {l : List (Addr × List Stmt)} (hc : Names X x (.ref C)) (r : HdsW X hds l) : HdsW X (.ExceptHandler (some (.Name x np)) none (b₀ :: suite) pos' :: hds) ((C, b₀ :: suite) :: l)
theorem HdsW.ok {hds : List ExceptHandler} {l : List (Addr × List Stmt)} (h : HdsW Y.X hds l) : HdsOk Y.X hds (suitesT Y l) := by
  induction h with
  | nil => exact .nil
  | cons hc r ih => exact .cons hc (fun a oe cls d pn _ _ => ⟨fun pins s σ H D I q => q oe pn pins s I⟩) ih
end
end WL
/-! What joins the layer to a text's facts; the rules with all their sides open. -/
namespace WL
open PySem PySem.Spec PyProof.Rows L2
theorem funD_fun {K : PySem.W.Frag} {x qual : Str} {st : Stmt} {f : Addr} {fd : FuncData} (F : FunD K x qual (defArgs st) (defBody st) (defScope st) [] [] f fd) : Fun K x qual st f fd := by
  obtain ⟨⟨oc, od, dV, kV, doc, pm, an, cdv, ct, osl, rfl, lk, hc, hd, hk⟩, kp⟩ := F
  rcases hd with ⟨_, rfl⟩ | ⟨hn, _⟩
  · exact ⟨⟨oc, od, kV, doc, pm, an, cdv, ct, osl, rfl, lk, hc⟩, kp⟩
  · exact absurd rfl hn
theorem excC_of {K : PySem.W.Frag} {mg : Str → Option Value} {x : Str} (g : mg x = some (.ref (He.ga K x))) (c : (He.Fa.exc x).ok K = true) : ExcC K mg x (He.ga K x) := by
  obtain ⟨h1, h2, h3, h4⟩ := He.exc_ok c
  exact ⟨g, h1, h2, h3, h4⟩
/-- where a context stands -/
structure CyIs (Y : Cy) (P : Program) (w : World) (K : PySem.W.Frag) (mg : Str → Option Value) (base : Heap) : Prop where
  p : Y.X.prog = P
  w : Y.X.w = w
  K : Y.X.K = K
  m : Y.X.mg = mg
  b : Y.X.base = base
section
variable {Y : Cy} {ρ : Ρ} {c : List Cell} {Q : KQ} {P : Program} {w : World} {K : PySem.W.Frag} {mg : Str → Option Value} {base : Heap}
theorem we_callF {k : Nat} {x : Str} {ps : List Str} {F : FSp} {p pos : Pos} {e : Expr} {es : List Expr} (hf : HasFn P w K mg base k x ps F) (hY : CyIs Y P w K mg base) (hr : Room k Y.X.A) (hg : Gl Y.X x)
    (hdb : (x == ("__debug__" : Str)) = false) (he : starEach (e :: es) Y.X.env = (false, eval e Y.X.env) :: starEach es Y.X.env) (hpl : (backTo pos (starEach es Y.X.env)).any (·.1) = false)
    (h : WA Y ρ c (e :: es) fun ws c1 => F ws c1 Q fun x c2 => Y.Qx x ρ c2) :
    WE Y ρ c (.Call (.Name x p) (e :: es) [] pos) Q := by
  obtain ⟨rfl, rfl, rfl, rfl, rfl⟩ := hY
  exact we_call hf hr hg h hdb he hpl
theorem we_callBF {id : String} {x : Str} {p pos : Pos} {e : Expr} {es : List Expr} (hm : mg x = none) (hv : bootBuiltins x = some (.builtin id)) (hn : x ≠ "__name__") (hM : Y.X.mg = mg) (hg : Gl Y.X x)
    (hdb : (x == ("__debug__" : Str)) = false) (he : starEach (e :: es) Y.X.env = (false, eval e Y.X.env) :: starEach es Y.X.env) (hpl : (backTo pos (starEach es Y.X.env)).any (·.1) = false)
    (h : WA Y ρ c (e :: es) fun ws c1 => WC Y (.builtin id) ws c1 Q) :
    WE Y ρ c (.Call (.Name x p) (e :: es) [] pos) Q := we_callB hg (by rw [hM]; exact hm) hv h hn hdb he hpl
theorem we_callTyF {T : String} {x : Str} {p pos : Pos} {e : Expr} {es : List Expr} (hm : mg x = none) (hv : bootBuiltins x = some (.type T)) (hn : x ≠ "__name__") (hM : Y.X.mg = mg) (hg : Gl Y.X x)
    (hdb : (x == ("__debug__" : Str)) = false) (he : starEach (e :: es) Y.X.env = (false, eval e Y.X.env) :: starEach es Y.X.env) (hpl : (backTo pos (starEach es Y.X.env)).any (·.1) = false)
    (h : WA Y ρ c (e :: es) fun ws c1 => WC Y (.type T) ws c1 Q) :
    WE Y ρ c (.Call (.Name x p) (e :: es) [] pos) Q := we_callTy hg (by rw [hM]; exact hm) hv h hn hdb he hpl
/-- a built-in class as a value -/
theorem we_tyF {T : String} {x : Str} {pos : Pos} (hm : mg x = none) (hv : bootBuiltins x = some (.type T)) (hn : x ≠ "__name__") (hM : Y.X.mg = mg) (hg : Gl Y.X x) (hdb : (x == ("__debug__" : Str)) = false) (q : Q (.im (.ty T)) c) :
    WE Y ρ c (.Name x pos) Q := fun κ σ hc o r g Q' G =>
  PE.w (pe_bltn (v := .ty T) hg (by rw [hM]; exact hm) hv rfl hn hdb) (G (.ty T) (.im (.ty T)) κ (.refl _) o rfl (by rw [hc]; exact q))
theorem we_globF {x : Str} {u : Value} {d : D} {pos : Pos} (hm : mg x = some u) (hd : ∃ v, RelV v u ∧ ∀ I, Rp K I d v) (hK : Y.X.K = K) (hM : Y.X.mg = mg) (hg : Gl Y.X x) (hdb : (x == ("__debug__" : Str)) = false) (q : Q (.im d) c) : WE Y ρ c (.Name x pos) Q := by
  obtain ⟨v, hv, hd⟩ := hd
  subst hK; subst hM
  exact we_glob hg hm hv hd q hdb
theorem ws_raise0F {n0 : Nat} {Z : EndsW} {x : Str} {C : Addr} {p pp pos : Pos} (T : ExcC K mg x C) (hK : Y.X.K = K) (hM : Y.X.mg = mg) (hcm : Y.X.calm = true) (hg : Gl Y.X x) (hdb : (x == ("__debug__" : Str)) = false) (q : Y.Qx ⟨C, [], []⟩ ρ c) : WS Y n0 ρ c (.Raise (some (.Call (.Name x p) [] [] pp)) none pos) Z := by
  subst hK; subst hM
  exact ws_raise0 hcm T hg q hdb
end
end WL
/-! Names at a look, ways of a test, what loops and comprehensions ask. -/
namespace WL
open PySem PySem.Spec PyProof.Rows L2
/-- a name of a def, looked at once -/
def nmB (N : List Str) (sc : Scope) (x : Str) (i : Nat) : Bool := decide (N.idxOf? x = some i) && (decide (sc.names.lookup x = some .local) || decide (sc.names.lookup x = some .cell) || decide (sc.names.lookup x = some .free)) && !(x == ("__debug__" : Str)) && !(x == ("__classdict__" : Str))
theorem nmB_ok {N : List Str} {sc : Scope} {x : Str} {i : Nat} (h : nmB N sc x i = true) : N.idxOf? x = some i ∧ Vis sc x ∧ (x == ("__debug__" : Str)) = false ∧ (x == ("__classdict__" : Str)) = false := by
  unfold nmB at h
  simp only [Bool.and_eq_true, Bool.or_eq_true, decide_eq_true_eq, Bool.not_eq_true'] at h
  obtain ⟨⟨⟨h1, h2⟩, h3⟩, h4⟩ := h
  exact ⟨h1, h2.elim (fun h => h.elim .inl fun h => .inr (.inl h)) fun h => .inr (.inr h), h3, h4⟩
section
variable {Y : Cy} {ρ : Ρ} {c : List Cell} {Q : KQ} {n0 : Nat} {Z : EndsW}
theorem we_nm {x : Str} {i : Nat} {w : W} {pos : Pos} (h : nmB Y.X.N Y.X.env.scope x i = true) (hr : ρ[i]? = some (some w)) (q : Q w c) : WE Y ρ c (.Name x pos) Q :=
  we_name (nmB_ok h).1 hr q (nmB_ok h).2.1 (nmB_ok h).2.2.1 (nmB_ok h).2.2.2
/-- .. that is set -/
def stB (N : List Str) (sc : Scope) (x : Str) (i : Nat) : Bool := decide (N.idxOf? x = some i) && (decide (sc.names.lookup x = some .local) || decide (sc.names.lookup x = some .cell))
theorem stB_ok {N : List Str} {sc : Scope} {x : Str} {i : Nat} (h : stB N sc x i = true) : N.idxOf? x = some i ∧ Loc sc x := by
  unfold stB at h
  simp only [Bool.and_eq_true, Bool.or_eq_true, decide_eq_true_eq] at h
  exact ⟨h.1, h.2⟩
theorem ws_st {i : Nat} {x : Str} {e : Expr} {pos' pos : Pos} (hs : stB Y.X.N Y.X.env.scope x i = true) (hN : Y.X.N.Nodup) (hf : Y.X.fn x = true) (hsw : swapsWith e (some (.Name x pos')) pos.line Y.X.env = pure false) (h : WE Y ρ c e fun w c' => Z.nx (ρ.set i (some w)) c') : WS Y n0 ρ c (.Assign [.Name x pos'] e pos) Z :=
  ws_set hN (stB_ok hs).1 h (stB_ok hs).2 hsw (.inl hf)
theorem ws_ag {i : Nat} {x : Str} {e : Expr} {op : Operator} {pos' pos : Pos} {w0 : W} (hs : stB Y.X.N Y.X.env.scope x i = true) (hN : Y.X.N.Nodup) (hf : Y.X.fn x = true) (hr : ρ[i]? = some (some w0)) (h : WE Y ρ c e fun w c' => WO Y (inplaceOp op) w0 w c' fun w2 c2 => Z.nx (ρ.set i (some w2)) c2) : WS Y n0 ρ c (.AugAssign (.Name x pos') op e pos) Z :=
  ws_aug hN (stB_ok hs).1 hr h (stB_ok hs).2 (.inl hf)
end
end WL
namespace WL
theorem iteP {c A B : Prop} [Decidable c] (h : c) (a : A) : if c then A else B := by rw [if_pos h]; exact a
theorem iteN {c A B : Prop} [Decidable c] (h : ¬ c) (b : B) : if c then A else B := by rw [if_neg h]; exact b
end WL
namespace WL
theorem atI_0 {α : Type} {x : α} {r : List α} : L2.atI (x :: r) 0 = some x := by
  have h : (0 : Int) < (r.length : Int) + 1 := by omega
  simp [L2.atI, L2.ixN, h]
theorem atI_1 {α : Type} {x y : α} {r : List α} : L2.atI (x :: y :: r) 1 = some y := by
  have h : (1 : Int) < (r.length : Int) + 1 + 1 := by omega
  simp [L2.atI, L2.ixN, h]
end WL
namespace WL
theorem iteDP {p A B : Prop} [Decidable p] (h : p) (a : A) : if decide p = true then A else B := iteP (decide_eq_true h) a
theorem iteDN {p A B : Prop} [Decidable p] (h : ¬ p) (b : B) : if decide p = true then A else B := iteN (fun z => h (of_decide_eq_true z)) b
theorem iteNP {p A B : Prop} [Decidable p] (h : ¬ p) (a : A) : if (!decide p) = true then A else B := iteP (by rw [decide_eq_false h]; rfl) a
theorem iteNN {p A B : Prop} [Decidable p] (h : p) (b : B) : if (!decide p) = true then A else B := iteN (by rw [decide_eq_true h]; decide) b
theorem q_bl {Q : KQ} {b b' : Bool} {c : List Cell} (h : Q (.im (.bl b)) c) (e : b = b') : Q (.im (.bl b')) c := e ▸ h
end WL
namespace WL
open PySem PySem.Spec PyProof.Rows L2
section
variable {Y : Cy} {ρ : Ρ} {c : List Cell} {n0 : Nat} {Z : EndsW}
/-- what a loop asks -/
def ForAsk (Y : Cy) (ρ : Ρ) (Z : EndsW) (t : Tgt) (body : List Stmt) (ds : List D) (c1 : List Cell) : Prop :=
  ∃ P : Nat → Ρ → List Cell → Prop, P 0 ρ c1 ∧ (∀ i d ρ' c', ds[i]? = some d → P i ρ' c' → t.fits d ∧ WSs Y c1.length (t.bind ρ' d) c' body { nx := P (i + 1), rt := Z.rt, bk := Z.nx, ct := P (i + 1) }) ∧ ∀ ρ' c', P ds.length ρ' c' → Z.nx ρ' c'
theorem ws_forF {tg iter : Expr} {body : List Stmt} {pos : Pos} (t : Tgt) (hcm : Y.X.calm = true) (hg : PG Y.X tg (t.g Y.X.K)) (hs : ∀ x, foldedSetIterable iter Y.X.env x = pure x)
    (h : WI Y ρ c tg iter (ForAsk Y ρ Z t body)) : WS Y n0 ρ c (.For tg iter body [] pos) Z := ws_for t hcm hg h hs
theorem forask {t : Tgt} {body : List Stmt} {ds : List D} (P : Nat → Ρ → List Cell → Prop) (p0 : P 0 ρ c)
    (step : ∀ i d ρ' c', ds[i]? = some d → P i ρ' c' → t.fits d ∧ WSs Y c.length (t.bind ρ' d) c' body { nx := P (i + 1), rt := Z.rt, bk := Z.nx, ct := P (i + 1) }) (fin : ∀ ρ' c', P ds.length ρ' c' → Z.nx ρ' c') : ForAsk Y ρ Z t body ds c := ⟨P, p0, step, fin⟩
variable {scope : Scope} {vs : List Nat} {t : Tgt} {elt : Expr} {QL : List D → List Cell → Prop} {ds : List D}
theorem take_succ_get {α : Type} {l : List α} {i : Nat} {d : α} (h : l[i]? = some d) : l.take (i + 1) = l.take i ++ [d] := by
  rw [List.take_succ, h]; rfl
/-- .. with a test -/
theorem lc_filter (p : D → Bool) (g : D → D) {cond : Expr} (hz : ds.length ≤ 1000000) (h : ∀ (i : Nat) d, ds[i]? = some d → t.fits d ∧ ∀ b : Blk, WT (Y.blk scope b) (t.bind (wipeW ρ vs) d) c cond fun k c2 => k = p d ∧ c2 = c)
    (h2 : ∀ (i : Nat) d, ds[i]? = some d → p d = true → ∀ b : Blk, WE (Y.blk scope b) (t.bind (wipeW ρ vs) d) c elt fun w c3 => w = .im (g d) ∧ c3 = c) (q : QL ((ds.filter p).map g) c) : LcAsk Y ρ scope vs t [cond] elt QL ds c := by
  refine ⟨fun i acc c' => acc = ((ds.take i).filter p).map g ∧ c' = c, ⟨by simp, rfl⟩, fun i d acc c' hi ⟨ha, hc⟩ => ?_, fun acc c' ⟨ha, hc⟩ => ?_⟩
  · subst ha; subst hc
    obtain ⟨h1, h3⟩ := h i d hi
    have hl : i < ds.length := (List.getElem?_eq_some_iff.mp hi).1
    refine ⟨?_, h1, fun b => wts_one ((h3 b).mono fun k c2 ⟨e1, e2⟩ => ?_)⟩
    · rw [List.length_map]
      refine Nat.lt_of_le_of_lt (List.length_filter_le _ _) ?_
      rw [List.length_take]; omega
    · subst e2
      cases k with
      | true =>
        rw [if_pos rfl]
        intro b2
        refine (h2 i d hi e1.symm b2).mono fun w c3 ⟨e1', e2⟩ => ⟨g d, e1', ?_, e2⟩
        rw [take_succ_get hi, List.filter_append, List.map_append]
        simp [e1.symm]
      | false =>
        rw [if_neg Bool.false_ne_true]
        show _ = _ ∧ _ = _
        rw [take_succ_get hi, List.filter_append]
        simp [e1.symm]
  · subst ha; subst hc
    rw [List.take_length]; exact q
end
end WL
namespace WL
open PySem PySem.Spec PyProof.Rows L2
section
variable {Y : Cy} {ρ : Ρ} {c c2 c0 : List Cell} {Q : KQ} {w1 w2 : W}
theorem cel_0 {x : Cell} : (c0 ++ [x])[c0.length]? = some x := by simp
theorem cel_1 {x y : Cell} : (c0 ++ [x] ++ [y])[c0.length]? = some x := by simp
theorem set_0 {x z : Cell} : (c0 ++ [x]).set c0.length z = c0 ++ [z] := by simp
theorem set_1 {x y z : Cell} : (c0 ++ [x] ++ [y]).set c0.length z = c0 ++ [z] ++ [y] := by simp
theorem clo_take : ∀ {c : List Cell} {n : Nat} {d : List Cell}, n ≤ c.length → clo n (c ++ d) = clo n c := fun {c n d} h => by
  unfold clo; rw [List.take_append_of_le_length h]
theorem clo_app {d : List Cell} (h : clo c.length c = true) : clo c.length (c ++ d) = true := by rw [clo_take (Nat.le_refl _)]; exact h
theorem take_app {d : List Cell} : (c ++ d).take c.length = c := by simp
theorem wset_dicE {n : Nat} {ks : List Key} {l : List D} {d e : D} {k : Key} {QC : List Cell → Prop} (hu : Y.X.A.units + 1 < cLine) (hc : c[n]? = some (.dic ks l)) (hk : d.key = some k) (nd : ks.Nodup) (hz : ks.length < 1000000) (hs : c.set n (.dic (putD ks l k e).1 (putD ks l k e).2) = c2) (q : QC c2) : WSet Y (.im e) (.ce n) (.im d) c QC := wset_dic hu hc nd hz hk (by rw [hs]; exact q)
theorem wset_lstE {n j : Nat} {l : List D} {i : Int} {d : D} {QC : List Cell → Prop} (hc : c[n]? = some (.lst l)) (hj : ixN l.length i = some j) (hs : c.set n (.lst (l.set j d)) = c2) (q : QC c2) : WSet Y (.im d) (.ce n) (.im (.int i)) c QC := wset_lst hc hj (by rw [hs]; exact q)
theorem wm_appendE {n : Nat} {l : List D} {d : D} (hc : c[n]? = some (.lst l)) (hz : l.length < 1000000) (hs : c.set n (.lst (l ++ [d])) = c2) (q : Q (.im .non) c2) : WM Y "list.append" (.ce n) [.im d] c Q := wm_append hc hz (by rw [hs]; exact q)
end
end WL
namespace WL
theorem rtok_same {Q : KQ} {d : D} {c : List Cell} (q : Q (.im d) c) : RtOk c.length Q (.im d) c := RtOk.all q
end WL
namespace WL
open PySem PySem.Spec PyProof.Rows L2
section
variable {Y : Cy} {ρ : Ρ} {c : List Cell} {Q : KQ} {n0 : Nat} {Z : EndsW} {w : W}
theorem cdiv_of {i j : Int} (h : 0 < j) (hw : -(2 ^ 250) ≤ j ∧ j ≤ 2 ^ 250) : CDivW i j := by
  refine ⟨h, ?_⟩
  have h2 : j.natAbs ≤ 2 ^ 250 := by omega
  have := Nat.log2_lt (n := j.natAbs) (k := 251) (by omega)
  have h3 : j.natAbs.log2 < 251 := this.mpr (Nat.lt_of_le_of_lt h2 (Nat.pow_lt_pow_right (by decide) (by decide)))
  omega
end
end WL
/-! enumerate over a tuple. -/
namespace PySem
open Sem (wp)
open AutoSeq1 (wpAny_loadPart')
end PySem
/-! Methods of lists, cells that are set again. -/
namespace WL
open PySem PySem.Spec PyProof.Rows L2
def LstW (c : List Cell) (w : W) : Prop := ∃ l, Sn c w (.lst l)
theorem cel_s {c : List Cell} {n : Nat} {x y : Cell} (h : c[n]? = some y) : (c.set n x)[n]? = some x := by
  rw [List.getElem?_set_self (List.getElem?_eq_some_iff.mp h).1]
theorem set_self {c : List Cell} {n : Nat} {x : Cell} (h : c[n]? = some x) : c.set n x = c := by
  obtain ⟨h1, h2⟩ := List.getElem?_eq_some_iff.mp h
  rw [← h2, List.set_getElem_self]
section
variable {Y : Cy} {ρ : Ρ} {c c2 : List Cell} {Q : KQ}
theorem we_lm {o e : Expr} {es : List Expr} {name : Str} {apos cpos : Pos} {id : String} (slot : Slot "list" name id) (hty : typeOf (.builtin id) = pure (.type "method_descriptor"))
    (hbase : attributeBase o name Y.X.env (eval o Y.X.env) = eval o Y.X.env)
    (hfew : ((backTo cpos (starEach (e :: es) Y.X.env)).all (fun x => !x.1) && (backToKw cpos (keywordEach [] Y.X.env)).all (fun x => x.1.isSome)
      && decide ((e :: es).length + ([] : List Keyword).length + (if ([] : List Keyword).isEmpty then 0 else 1) < 30)) = true)
    (hline : (apos.endLine == cpos.line) = true) (hs : starEach (e :: es) Y.X.env = (false, eval e Y.X.env) :: starEach es Y.X.env) (hplain : (backTo cpos (starEach es Y.X.env)).any (·.1) = false)
    (h : WE Y ρ c o fun w c1 => LstW c1 w ∧ WA Y ρ c1 (e :: es) fun ws c2 => WM Y id w ws c2 Q) :
    WE Y ρ c (.Call (.Attribute o name apos) (e :: es) [] cpos) Q :=
  we_bm F.plainAttrs_list slot hty (h.mono fun w c1 ⟨⟨l, hl⟩, q⟩ => ⟨_, hl, .inl ⟨rfl, l, rfl⟩, q⟩) hbase hfew hline hs hplain
theorem we_lm0 {o : Expr} {name : Str} {apos cpos : Pos} {id : String} (slot : Slot "list" name id) (hty : typeOf (.builtin id) = pure (.type "method_descriptor"))
    (hbase : attributeBase o name Y.X.env (eval o Y.X.env) = eval o Y.X.env) (hline : (apos.endLine == cpos.line) = true)
    (h : WE Y ρ c o fun w c1 => LstW c1 w ∧ WM Y id w [] c1 Q) :
    WE Y ρ c (.Call (.Attribute o name apos) [] [] cpos) Q :=
  we_bm0 F.plainAttrs_list slot hty (h.mono fun w c1 ⟨⟨l, hl⟩, q⟩ => ⟨_, hl, .inl ⟨rfl, l, rfl⟩, q⟩) hbase hline
theorem wm_popAtE {n k : Nat} {l : List D} {i : Int} {d : D} (hc : c[n]? = some (.lst l)) (hi : -(2 ^ 63) ≤ i ∧ i < 2 ^ 63) (hk : seqIndex? i l.length = some k) (hd : l[k]? = some d) (hs : c.set n (.lst (l.eraseIdx k)) = c2) (q : Q (.im d) c2) : WM Y "list.pop" (.ce n) [.im (.int i)] c Q := wm_popAt hc hi hk hd (by rw [hs]; exact q)
theorem wm_popE {n : Nat} {l : List D} {d : D} (hc : c[n]? = some (.lst l)) (hd : l[l.length - 1]? = some d) (hs : c.set n (.lst l.dropLast) = c2) (q : Q (.im d) c2) : WM Y "list.pop" (.ce n) [] c Q := wm_pop hc hd (by rw [hs]; exact q)
end
end WL
namespace WL
open PySem PySem.Spec PyProof.Rows L2
theorem Rps.rg {K : PySem.W.Frag} {I : Hp} (a b : Int) : Rps K I (rangeD a (b - a).toNat) (rgV a b) := by
  have go : ∀ l : List Nat, Rps K I (l.map fun i => D.int (a + (i : Nat))) (l.map fun i => V.int (a + (i : Nat))) := by
    intro l
    induction l with
    | nil => exact Rps.nil
    | cons x r ih => exact Rps.cons rfl ih
  exact go _
section
variable {Y : Cy} {ρ : Ρ} {c : List Cell} {Q : KQ}
/-- list(range(a)) -/
theorem we_listRg1 {a : Expr} {p p1 pos pos1 : Pos} (hml : Y.X.mg "list" = none) (hmr : Y.X.mg "range" = none) (hcm : Y.X.calm = true) (hgl : Gl Y.X "list") (hgr : Gl Y.X "range")
    (na : starEach [a] Y.X.env = (false, eval a Y.X.env) :: starEach [] Y.X.env) (na2 : starEach [.Call (.Name "range" p1) [a] [] pos1] Y.X.env = (false, eval (.Call (.Name "range" p1) [a] [] pos1) Y.X.env) :: starEach [] Y.X.env)
    (h : WE Y ρ c a fun w c1 => ∃ j : Int, w = .im (.int j) ∧ (0 ≤ j ∧ j ≤ 1000000) ∧ Q (.im (.lst (rangeD 0 j.toNat))) c1) : WE Y ρ c (.Call (.Name "list" p) [.Call (.Name "range" p1) [a] [] pos1] [] pos) Q := fun κ σ hc o r g Q' G =>
  PE.w (pe_listRg hcm hgl hml (prg_1 hgr hmr pe_w na) na2) (h.bind hc o r g fun v w κ1 l1 o1 r1 g1 rw1 ⟨j, e1, hj, q⟩ => by
    subst e1
    refine ⟨j, rw1, RgOk.of_le (Int.le_refl _) (by omega) (by decide) hj.1, fun p hp => ?_⟩
    obtain ⟨l2, o2, rp⟩ := new_lst o1 hp (Rps.rg 0 j)
    rw [Int.sub_zero] at rp
    exact G _ (.im (.lst (rangeD 0 j.toNat))) _ (l1.trans l2) o2 rp q)
end
end WL
/-! A cell that is data from here on; zip. -/
namespace WL
open PySem PySem.Spec PyProof.Rows L2
section
variable {K : PySem.W.Frag} {κ : Wd}
theorem Wd.le.takeM {κ0 : Wd} (l : κ0.le κ) {m : Nat} (hm : κ0.th.length ≤ m) : κ0.le ⟨κ.I, κ.H, κ.th.take m, κ.c.take m⟩ := ⟨l.ii, fun n a h => by
  show (κ.th.take m)[n]? = some a
  have hn := (List.getElem?_eq_some_iff.mp h).1
  rw [List.getElem?_take, if_pos (by omega)]; exact l.th n a h, l.fr, l.hd, l.nw, fun a h n => l.nt a (List.mem_of_mem_take h) n⟩
end
def frzW (n : Nat) (d : D) : W → W
  | .ce k => if k = n then .im d else .ce k
  | .im e => .im e
def frzP (n : Nat) (d : D) (ρ : Ρ) : Ρ := ρ.map (Option.map (frzW n d))
end WL
namespace WL
open PySem PySem.Spec PyProof.Rows L2
/-- the slots behind: forgotten, or as before but for the cell -/
def FrzOk (n : Nat) (d : D) : Ρ → Ρ → Prop
  | [], [] => True
  | none :: r, _ :: r' => FrzOk n d r r'
  | some w :: r, o :: r' => (∃ w1, o = some w1 ∧ frzW n d w1 = w) ∧ FrzOk n d r r'
  | _, _ => False
theorem FrzOk.get {n : Nat} {d : D} : ∀ {r r' : Ρ}, FrzOk n d r r' → r.length = r'.length ∧ ∀ (i : Nat) w, r[i]? = some (some w) → (frzP n d r')[i]? = some (some w)
  | [], [], _ => ⟨rfl, fun i w h => by simp at h⟩
  | none :: r, _ :: r', h => by
    obtain ⟨h1, h2⟩ := FrzOk.get (r := r) (r' := r') h
    refine ⟨by rw [List.length_cons, List.length_cons, h1], fun i w hi => ?_⟩
    cases i with
    | zero => simp at hi
    | succ i => exact h2 i w (by simpa using hi)
  | some w0 :: r, o :: r', ⟨⟨w1, eo, e⟩, h⟩ => by
    subst eo
    obtain ⟨h1, h2⟩ := FrzOk.get (r := r) (r' := r') h
    refine ⟨by rw [List.length_cons, List.length_cons, h1], fun i w hi => ?_⟩
    cases i with
    | zero =>
      have hi : w0 = w := by simpa using hi
      subst hi
      show some (some (frzW n d w1)) = _
      rw [e]
    | succ i => exact h2 i w (by simpa using hi)
end WL
namespace WL
open PySem PySem.Spec PyProof.Rows L2
/-- [x] * int(p) -/
theorem wo_rep01 {Y : Cy} {c : List Cell} {Q : KQ} {x : D} {p : Prop} [Decidable p] (q : Q (.im (.lst (if p then [x] else []))) c) : WO Y (binaryOp .Mult) (.im (.lst [x])) (.im (.int (if decide p = true then 1 else 0))) c Q := by
  by_cases h : p
  · rw [if_pos h] at q
    rw [if_pos (decide_eq_true h)]
    exact wo_repL .im ⟨by decide, by decide⟩ (Nat.le_of_ble_eq_true rfl) q
  · rw [if_neg h] at q
    rw [if_neg (fun z => h (of_decide_eq_true z))]
    exact wo_repL .im ⟨by decide, by decide⟩ (Nat.le_of_ble_eq_true rfl) q
end WL
/-! range over ints of any size. -/
namespace WL
open PySem PySem.Spec PyProof.Rows L2
theorem turn_long {P : Program} {w : World} {K : PySem.W.Frag} {tg : Expr} (it : Addr) (lo : Int) (n : Nat) : Turn P w K tg (Itr lo n) [it] it (fun i h => IsLongIter h it (lo + (i : Nat) * 1) ((n : Int) - (i : Nat)) 1) where
  mem := by simp
  obj := fun i h st b hb => by
    have eb : b = it := by simpa using hb
    subst eb
    exact ⟨_, st, fun v z => nomatch z⟩
  keep := fun i h h1 st k => k it (by simp) _ st
  item := by
    intro X eP ew eK ec i pins s σ H E I hf st hg
    subst eP ew eK
    obtain ⟨f0, f1, f2, f3, f4, f5⟩ := hf it (by simp)
    refine (Walks.longrange (prog := X.prog) (w := X.w) (I.ok.hd ec) it lo 1 n).item i s _ _ hg st fun v h1 tk hv st1 kk => ?_
    obtain ⟨t, rfl⟩ := hv
    have I1 : Inv X pins σ H { s with heap := h1, toks := tk } := I.turned (fun b o hb q => kk b o (by simpa using hb) q) f0 f1 f3 f4 f5
    refine ⟨_, rfl, go_of (s := { s with heap := h1, toks := tk }) (n := "longrange_iterator") st1 rfl rfl (by decide) ⟨.int (lo + i), H, I1, ⟨t, ?_⟩, ⟨rfl, rfl⟩, st1, fun b hb => (hf b hb).1⟩⟩
    rw [Int.mul_one]
  done := by
    intro X eP ew eK ec i pins s σ H E I hf st hg
    subst eP ew eK
    obtain ⟨f0, f1, f2, f3, f4, f5⟩ := hf it (by simp)
    exact wpAny_pyNext_long_end (I.ok.hd ec) st (by have q : n ≤ i := hg; omega) fun h1 eb => ⟨rfl, I.turned (t' := s.toks) (fun b o hb q => eb b o hb q) f0 f1 f3 f4 f5⟩
  self := fun _ _ _ _ _ st h => wpAny_pyIter_longiter st h
theorem size_one {lo hi : Int} : Builtin.Range.rangeSize lo hi 1 = (((hi - lo).toNat : Nat) : Int) := by rw [rangeSize_one]; split <;> omega
theorem range_any {X : Cx} {tg : Expr} {pins : List (Addr × Obj)} {σ : L2.St} {H : Hp} {s : Shared} {R : It → Hp → Prop} {E : Value → Shared → Prop} {lo hi : Int} {t u v : Tok} {tk : Nat} (I : Inv X pins σ H s)
    (q : R (Itr lo (hi - lo).toNat) H) : wpAny (model X.prog X.w) X.A (pyIter (.ref s.heap.objs.size)) (PIE X pins σ tg R) E { s with heap := s.heap.push { cls := .type "range", data := .fields #[.int lo t, .int hi u, .int 1 v] }, toks := tk } := by
  have I1 : Inv X pins σ H { s with heap := s.heap.push { cls := .type "range", data := .fields #[.int lo t, .int hi u, .int 1 v] }, toks := tk } := I.kept fun b o q => Heap.get?_push_of_some _ q
  have e1 : lo + ((0 : Nat) : Int) * 1 = lo := by simp
  have e2 : (((hi - lo).toNat : Nat) : Int) - ((0 : Nat) : Int) = Builtin.Range.rangeSize lo hi 1 := by rw [size_one]; omega
  have fp : ∀ b ∈ [(s.heap.push { cls := .type "range", data := .fields #[.int lo t, .int hi u, .int 1 v] }).objs.size], FpOk X pins H b := fun b hb => by
    have eb : b = (s.heap.push { cls := .type "range", data := .fields #[.int lo t, .int hi u, .int 1 v] }).objs.size := by simpa using hb
    subst eb
    exact I1.fpOk (Nat.le_refl _) (I1.hok.fresh (Nat.le_refl _))
  cases sm : Builtin.Range.small lo hi 1 with
  | true =>
    refine wpAny_pyIter_range (IsRange.new ..) sm ?_
    refine ⟨_, _, _, _, H, rfl, I1.kept (t' := tk) fun b o q => Heap.get?_push_of_some _ q, turn_range _ lo (hi - lo).toNat, ?_, fp, q⟩
    show IsRangeIter _ _ (lo + ((0 : Nat) : Int) * 1) ((((hi - lo).toNat : Nat) : Int) - ((0 : Nat) : Int)) 1
    rw [e1, e2]
    exact Heap.get?_push_size _ rfl
  | false =>
    refine wpAny_pyIter_longrange (IsRange.new ..) sm ?_
    refine ⟨_, _, _, _, H, rfl, I1.kept (t' := tk) fun b o q => Heap.get?_push_of_some _ q, turn_long _ lo (hi - lo).toNat, ?_, fp, q⟩
    show IsLongIter _ _ (lo + ((0 : Nat) : Int) * 1) ((((hi - lo).toNat : Nat) : Int) - ((0 : Nat) : Int)) 1
    rw [e1, e2]
    exact Heap.get?_push_size _ rfl
def iRngW (ta : TA) : TI := fun σ H R => ta σ H fun vs H1 => ∃ i j : Int, vs = [.int i, .int j] ∧ R (Itr i (j - i).toNat) H1
theorem pi_rangeW {X : Cx} {tg a b : Expr} {ta : TA} {p pos : Pos} (hg : Gl X "range") (hm : X.mg "range" = none) (ha : PA X [a, b] ta) (hs : starEach [a, b] X.env = [(false, eval a X.env), (false, eval b X.env)]) (hs2 : starEach [b] X.env = [(false, eval b X.env)]) :
    PI X tg (.Call (.Name "range" p) [a, b] [] pos) (iRngW ta) := by
  refine ⟨fun pins s σ H R I hh => ?_⟩
  refine Call_ (ld_blt I hg hm boot_range (PyProof.Rows.callWith_type1 (thn (ha.run pos pins s σ H _ I hh) fun us s1 ⟨vs, H1, I1, r1, q1⟩ => ?_) (by rw [hs, hs2]) (by rw [hs2]; rfl)))
  obtain ⟨i, j, ev, q⟩ := q1
  subst ev
  cases r1 with
  | cons r rr =>
    cases rr with
    | cons r2 rr =>
      cases rr
      obtain ⟨t, rfl⟩ := r
      obtain ⟨t2, rfl⟩ := r2
      exact call_range_2 (range_any I1 q)
theorem wi_rangeW {Y : Cy} {ρ : Ρ} {c : List Cell} {tg a b : Expr} {p pos : Pos} {Q : List D → List Cell → Prop} (hg : Gl Y.X "range") (hm : Y.X.mg "range" = none)
    (hs : starEach [a, b] Y.X.env = [(false, eval a Y.X.env), (false, eval b Y.X.env)]) (hs2 : starEach [b] Y.X.env = [(false, eval b Y.X.env)])
    (h : WE Y ρ c a fun w c1 => WE Y ρ c1 b fun w2 c2 => ∃ i j : Int, w = .im (.int i) ∧ w2 = .im (.int j) ∧ Q (rangeD i (j - i).toNat) c2) : WI Y ρ c tg (.Call (.Name "range" p) [a, b] [] pos) Q := fun κ σ hc o r g Q' G => by
  have hA : WA Y ρ c [a, b] fun ws c1 => ∃ i j : Int, ws = [.im (.int i), .im (.int j)] ∧ Q (rangeD i (j - i).toNat) c1 :=
    wa_cons (h.mono fun w c1 h1 => wa_cons (h1.mono fun w2 c2 ⟨i, j, e1, e2, q⟩ => wa_nil ⟨i, j, by rw [e1, e2], q⟩) (by rw [hs2]; rfl)) (by rw [hs, hs2])
  refine PI.w (pi_rangeW hg hm pa_w hs hs2) (hA.bind hc o r g fun vs ws κ1 l1 o1 r1 g1 rw1 ⟨i, j, e1, q⟩ => ?_)
  subst e1
  obtain ⟨v, rr, rfl, hv, ⟨v2, rr2, rfl, hv2, hn⟩⟩ := rw1
  have hn : rr2 = [] := hn
  have hv : v = .int i := hv
  have hv2 : v2 = .int j := hv2
  subst hn; subst hv; subst hv2
  exact ⟨i, j, rfl, G _ _ κ1 l1 o1 (itok_range i (j - i).toNat) q⟩
end WL
/-! The end of a law by such a def. -/
namespace WL
open PySem PySem.Spec PyProof.Rows L2
theorem walk_w {l : PySem.W.OpenLaw} {n k : Nat} {q : Program} {loose : List Str} {XP : (Str → Option Value) → Heap → Prop} {YP : World → Heap → Prop} {d : DefRec} {x : Str}
    (hmost : l.most = some n) (hsz : n ≤ sizeLine) (hnd : d.params.defaults = []) (hroom : Room k callerA)
    (F : ∀ (w : World) (mg : Str → Option Value) (fa : Addr) (h : Heap), YP w h → h.Ns mainGlobals mg → mg d.name = some (.ref fa) →
      ∃ (K : PySem.W.Frag) (fd : FuncData) (sp : Sp), K.In h ∧ (∀ (s : Shared) (u : Value), BindsTo s fd ⟨[u], []⟩ [(x, u)]) ∧
        (∀ (H : Hp) (a : Addr) (ns : List Int), ns.length ≤ n → Only H → SqL K H a (ns.map V.int) → sp [.ref a] H (fun v _ => v = .bl true) fun _ _ _ => False) ∧
        ∀ base : Heap, K.In base → base.Ns mainGlobals mg → FnOk l.prog w K mg base (L2.CX l.prog w) k fa fd [x] sp) :
    PySem.W.WalkO q loose XP YP l.row.toRowW d [] (fun f vs => PySem.call f vs) := by
  refine Att.attach_call hmost hnd fun wd s0 s1 mg mb fa ob pm cdv dc a us is GG YY h1 h2 h3 hmg hob hin hle hgn => ?_
  obtain ⟨K, fd, sp, KX, hbd, hsp, hF⟩ := F wd mg fa _ YY GG.T.g hmg
  refine law_call KX GG.T.g GG.T.b GG.T.builtins GG.T.nolimit hgn hob hin (Nat.le_trans hle hsz) hroom hF hbd (fun H hO hS => hsp H a is hle hO hS) fun H e s2 z => ?_
  obtain ⟨_, _, _, _, _, _, _, _, _, _, _, _, z⟩ := z
  exact z
end WL
/-! max, min of two; parts of a slice. -/
namespace WL
open PySem PySem.Spec PyProof.Rows L2
section
variable {Y : Cy} {ρ : Ρ} {c : List Cell} {Q : KQ}
theorem wc_maxL2 {i j : Int} (hcm : Y.X.calm = true) (q : Q (.im (.int (if i < j then j else i))) c) : WC Y (.builtin "max") [.im (.lst [.int i, .int j])] c Q :=
  wc_max (ns := [i, j]) hcm .im (Nat.zero_lt_succ _) fun m h1 h2 => by
    have h3 := h2 i (by simp)
    have h4 := h2 j (by simp)
    simp only [List.mem_cons, List.not_mem_nil, or_false] at h1
    have e : m = if i < j then j else i := by split <;> omega
    rw [e]; exact q
theorem wc_minL2 {i j : Int} (hcm : Y.X.calm = true) (q : Q (.im (.int (if i < j then i else j))) c) : WC Y (.builtin "min") [.im (.lst [.int i, .int j])] c Q :=
  wc_min (ns := [i, j]) hcm .im (Nat.zero_lt_succ _) fun m h1 h2 => by
    have h3 := h2 i (by simp)
    have h4 := h2 j (by simp)
    simp only [List.mem_cons, List.not_mem_nil, or_false] at h1
    have e : m = if i < j then i else j := by split <;> omega
    rw [e]; exact q
theorem wpo_none {QO : Option Int → List Cell → Prop} (q : QO none c) : WPo Y ρ c none QO := q
theorem wpo_some {e : Expr} {QO : Option Int → List Cell → Prop} (h : WE Y ρ c e fun w c1 => ∃ i, w = .im (.int i) ∧ QO (some i) c1) : WPo Y ρ c (some e) QO := h
end
end WL
/-! enumerate(zip(xs, ys)). -/
namespace PySem
open Sem (wp)
open AutoSeq1 (wpAny_loadPart')
/-- the record of a zip, whatever became of the tuple it gave out -/
abbrev ZRec (h : Heap) (z TI TO : Addr) (f0 : Value) (f : Bool) : Prop :=
  h.get? z = some { cls := .type "zip", dict := none, data := .fields #[f0, .bool f, .bool false, .ref TI, .ref TO], slots := #[] }
structure ZAt (h : Heap) (z TI TO i1 i2 l1 l2 : Addr) (k : Nat) : Prop where
  rc : ∃ f0 f, ZRec h z TI TO f0 f ∧ (f0 = .none ∨ ∃ T : Nat, f0 = rawInt T)
  ti : IsPair h TI (.ref i1) (.ref i2)
  to : ∃ a b, IsPair h TO a b
  a1 : h.IsListIter i1 l1 k
  a2 : h.IsListIter i2 l2 k
section
variable {prog : Program} {w : World} {A : Around} {E : Value → Shared → Prop} {s : Shared}
theorem ZAt.ty {z TI TO i1 i2 l1 l2 : Addr} {k : Nat} (Z : ZAt s.heap z TI TO i1 i2 l1 l2 k) : s.TypeIs (.ref z) "zip" := by
  obtain ⟨f0, f, gz, _⟩ := Z.rc
  exact ⟨_, gz, rfl⟩
/-! ### enumerate(a zip) -/
end
end PySem
/-! sorted(pairs, key=sum). -/
/-! A comprehension of two clauses. -/
/-! Starred items. -/
namespace WL
open PySem PySem.Spec PyProof.Rows L2
section
variable {Y : Cy} {ρ : Ρ} {c : List Cell}
theorem RWs.ims_app {K : PySem.W.Frag} {I : Hp} {th : List Addr} : ∀ {l : List D} {vs : List V} {ws : List W} {us : List V}, Rps K I l vs → RWs K I th ws us → RWs K I th (l.map W.im ++ ws) (vs ++ us)
  | [], _, ws, us, h, g => by rw [show _ = [] from h]; exact g
  | d :: ds, _, ws, us, ⟨v, r, h1, h2, h3⟩, g => by rw [h1]; exact ⟨v, _, rfl, h2, RWs.ims_app h3 g⟩
theorem wa_star {e : Expr} {es : List Expr} {p : Pos} {QA : List W → List Cell → Prop} (h : WE Y ρ c e fun w c1 => ∃ l, (w = .im (.tup l) ∨ w = .im (.lst l)) ∧ WA Y ρ c1 es fun ws c2 => QA (l.map W.im ++ ws) c2)
    (hs : starEach (.Starred e p :: es) Y.X.env = (true, eval e Y.X.env) :: starEach es Y.X.env) : WA Y ρ c (.Starred e p :: es) QA := fun κ σ hc o r g Q' G =>
  PA.w (StX.pa_star pe_w pa_w hs) (h.bind hc o r g fun v1 w1 κ1 l1 o1 r1 g1 rw1 ⟨l, ew, q1⟩ => by
    have fin : ∀ a vs, (SqT Y.X.K κ1.H a vs ∨ SqL Y.X.K κ1.H a vs) → Rps Y.X.K κ1.I l vs → v1 = .ref a → ∃ (a : Addr) (xs : List V), v1 = V.ref a ∧ (SqT Y.X.K κ1.H a xs ∨ SqL Y.X.K κ1.H a xs) ∧ wA Y.X es σ κ1.H fun vs H => Q' (xs ++ vs) H := fun a vs hx hr e =>
      ⟨a, vs, e, hx, q1.bind rfl o1 r1 g1 fun us ws κ2 l2 o2 r2 g2 rws q2 => G (vs ++ us) (l.map W.im ++ ws) κ2 (l1.trans l2) o2 (RWs.ims_app (Rps.ex l2.ii l hr) rws) q2⟩
    rcases ew with rfl | rfl
    · obtain ⟨a, vs, rfl, g2, g3⟩ := rw1
      exact fin a vs (.inl (ex_t o1.ex g2)) g3 rfl
    · obtain ⟨a, vs, rfl, g2, g3⟩ := rw1
      exact fin a vs (.inr (SqL.of (o1.ex _ _ g2))) g3 rfl)
end
end WL
/-! Methods of texts; methods of own classes. -/
namespace WL
open PySem PySem.Spec PyProof.Rows L2
section
variable {Y : Cy} {ρ : Ρ} {c : List Cell} {Q : KQ} {w : W}
theorem wc_strS {x : Str} (q : Q (.im (.str x)) c) : WC Y (.type "str") [.im (.str x)] c Q := wc_1 SkE.call_str_str fun κ v Q' e o rv G => ⟨x, by rw [show v = .str x from rv], G (.str x) (.im (.str x)) κ (.refl _) o rfl (by rw [e]; exact q)⟩
theorem wc_intS {x : Str} {n : Int} (h : PySem.intText? x = some n) (hz : x.length ≤ 640) (q : Q (.im (.int n)) c) : WC Y (.type "int") [.im (.str x)] c Q := wc_1 call_int_str fun κ v Q' e o rv G => ⟨x, n, by rw [show v = .str x from rv], h, hz, G (.int n) (.im (.int n)) κ (.refl _) o rfl (by rw [e]; exact q)⟩
def StrW (w : W) : Prop := ∃ x, w = .im (.str x)
theorem we_sm {o e : Expr} {name : Str} {apos cpos : Pos} {id : String} (slot : Slot "str" name id) (hty : typeOf (.builtin id) = pure (.type "method_descriptor"))
    (hbase : attributeBase o name Y.X.env (eval o Y.X.env) = eval o Y.X.env)
    (hfew : ((backTo cpos (starEach [e] Y.X.env)).all (fun x => !x.1) && (backToKw cpos (keywordEach [] Y.X.env)).all (fun x => x.1.isSome)
      && decide ([e].length + ([] : List Keyword).length + (if ([] : List Keyword).isEmpty then 0 else 1) < 30)) = true)
    (hline : (apos.endLine == cpos.line) = true) (hs : starEach [e] Y.X.env = (false, eval e Y.X.env) :: starEach [] Y.X.env)
    (h : WE Y ρ c o fun w c1 => StrW w ∧ WA Y ρ c1 [e] fun ws c2 => WM Y id w ws c2 Q) :
    WE Y ρ c (.Call (.Attribute o name apos) [e] [] cpos) Q :=
  we_bm (Y := Y) F.plainAttrs_str slot hty (h.mono fun w c1 ⟨⟨x, hx⟩, q⟩ => ⟨.str x, by rw [hx]; exact .im, .inr ⟨rfl, x, rfl⟩, q⟩) hbase hfew hline hs (by rfl)
/-! ### methods of own classes -/
def MethW (c : List Cell) (w : W) (C : Addr) (m : Str) : Prop := ∃ ns ws, Ob c w C ns ws ∧ m ∉ ns
theorem Ob.no {c : List Cell} {w : W} {C : Addr} {ns : List Str} {ws : List W} {m : Str} (hm : m ∉ ns) {κ : Wd} {K : PySem.W.Frag} {v : V} (h : Ob c w C ns ws) (hc : κ.c = c) (o : κ.Ok K) (r : RW K κ.I κ.th w v) : ∃ a dx fs, v = .ref a ∧ κ.H a = some (.ins C dx fs) ∧ fs.lookup m = none := by
  obtain ⟨a, dx, vs, rfl, h1, h2, h3⟩ := h.at_ hc o r
  refine ⟨a, dx, _, rfl, h1, ?_⟩
  clear h1 h h3
  induction ns generalizing vs with
  | nil => rfl
  | cons n ns ih =>
    cases vs with
    | nil => cases h2
    | cons u us =>
      rw [List.zip_cons_cons, lookup_neg (fun z => hm (by rw [z]; exact List.mem_cons_self))]
      exact ih (fun z => hm (List.mem_cons_of_mem _ z)) us (by simpa using h2)
end
end WL
/-! An attribute counted up; enumerate over a list; == of an own class. -/
namespace WL
open PySem PySem.Spec PyProof.Rows L2
section
variable {Y : Cy} {ρ : Ρ} {c : List Cell} {Q : KQ} {n0 : Nat} {Z : EndsW}
/-! ### == of an own class -/
/-! ### isinstance of an own class -/
/-- an own class as a value -/
theorem we_clsF {x : Str} {C : Addr} {pos : Pos} {K : PySem.W.Frag} {mg : Str → Option Value} (hm : mg x = some (.ref C)) (hK : Y.X.K = K) (hM : Y.X.mg = mg) (hg : Gl Y.X x) (hdb : (x == ("__debug__" : Str)) = false) (q : Q (.im (.cls C)) c) : WE Y ρ c (.Name x pos) Q :=
  we_globF (K := K) (d := .cls C) hm ⟨.ref C, rfl, fun _ => rfl⟩ hK hM hg hdb q
end
end WL
/-! Loops over a list that may be changed later, and is not changed in the loop. -/
/-! sorted of ints; len of an own class. -/
/-! Own exceptions with fields: an __init__ that says super().__init__(..) and sets fields; raise; except .. as. -/
namespace WL
open PySem PySem.Spec PyProof.Rows L2 NdefX
/-- the text's file, and that no name super stands in it -/
class PFile (P : Program) : Prop where
  file : P.main.file = ("/claim/cut.py" : Str)
  sup : (P.main.scope.names.lookup ("super" : Str)).isSome = false
/-- the function at f of the class at C says super() -/
structure SupC (K : PySem.W.Frag) (mg : Str → Option Value) (C f : Addr) (F : NF) (fd : FuncData) : Prop where
  lk : ∃ oc od osl doc pm an ct, K.lookup f = some ⟨oc, od, .func fd, osl⟩ ∧ fd = PySem.W.fnX F.name F.qual F.params F.body F.scope F.cl .none .none doc pm an (.ref F.c) ct
  cd : PySem.W.codeIn K (.ref F.c) F.qual = true
  file : ∃ o vs t, K.lookup F.c = some o ∧ o.data = .fields vs ∧ vs[2]? = some (.str "/claim/cut.py" t)
  cl : ∃ cc o, F.cl = [(("__class__" : Str), cc)] ∧ K.lookup cc = some o ∧ o.data = .cell (some (.ref C))
  cls : ∃ cd, PySem.W.clsIn K C = some cd
  sub : PySem.W.mroIn K C (.ref C) = some true
  along : PySem.W.ks_superIn K C C "__init__" = some (some (.builtin "ValueError.__init__"))
  isVE : PySem.W.subIn K (.ref C) (.type "ValueError") = some true
  opq : PySem.W.nsIn K cStatics "thirdparty.any" = some none
  nosup : mg "super" = none
section
open PySem.W PySem.Calls
variable {prog : Program} {w : World} {A : Around} {E : Value → Shared → Prop} {h : Heap} {g : Array GenState} {d : Drawn} {t : Nat} {os : OsState}
variable {nm q : Str} {C N : Addr} {bs bm : List Value} {hdct : Bool} {sn : List Str} {sub : List Value} {ab : Bool} {col : Option Bool} {dd : Option Addr} {k0 k1 k2 k3 k5 : Option Value}
theorem call_mw {u e t0 : Addr} {rest : List Value} {Q : Value → Shared → Prop}
    (hC : h.get? C = some (excClassObj nm q C N bs bm hdct sn sub ab col dd k0 k1 k2 k3 k5 "ValueError.__new__")) (he : h.get? e = some (HandSPX.excO C t0)) (hu : h.get? u = some (kxs_mw "ValueError.__init__" e)) (hrest : rest.length ≤ sizeLine)
    (hq : ∀ h' t1, (∀ b o, b ≠ e → h.get? b = some o → h'.get? b = some o) → h'.get? e = some (HandSPX.excO C t1) → Q .none ⟨h', g, d, t, os⟩) :
    wpAny (model prog w) A (call (.ref u) rest) Q E ⟨h, g, d, t, os⟩ := by
  refine wpAny_call (codeAny_of_tree ?_)
  show wpAny _ A.in1 (callAny (.ref u) ⟨rest, []⟩) _ _ _
  simp only [callAny]
  refine wpAny_bind (wpAny_load hu ?_)
  simp only [kxs_mw, show (Value.type "method-wrapper" == Value.type "method" || Value.type "method-wrapper" == Value.type "builtin_function_or_method" || Value.type "method-wrapper" == Value.type "method-wrapper") = true by decide, if_true]
  refine KFB.if_so (by decide) ?_
  refine wpAny_bind (ESX.check_bound F.excBase_ValueError hC he rfl ?_)
  refine wpAny_bind (wpAny_pure (wpAny_pure ?_))
  refine ⟨Code.quiet_builtin _ (by decide +kernel), codeAny_builtin F.excBase_ValueError.initEntry ?_⟩
  rw [Around.under_plainId F.excBase_ValueError.init.plain _]
  wp_walk
  refine hq _ h.objs.size (fun b o hb ho => ?_) ?_
  · rw [Heap.get?_update_other _ _ (Ne.symm hb)]
    exact Heap.get?_push_of_some _ ho
  · rw [Heap.get?_update_self _ (Heap.get?_push_of_some _ he) rfl]
    rfl
end
/-- THE RULE of such an __init__ -/
theorem fn_sup {CX : CXT} {P : Program} [pf : PFile P] {w : World} {K : PySem.W.Frag} {mg : Str → Option Value} {base : Heap} {N ps : List Str} {F : NF} {f C : Addr} {fd : FuncData} {k : Nat} {sp : Sp} {p0 p1 p2 p3 p4 p5 : Pos} {j : Nat} {x : Str} {rest : List Stmt} {ar : Arg} {pl : Sem Bool}
    (SC : SupC K mg C f F fd) (T : OexC K C) (S : NScope N ps ["__class__"] F.scope) (hN0 : N[0]? = some ("self" : Str)) (hp0 : ps[0]? = some ("self" : Str)) (hp : (F.params.posonlyargs ++ F.params.args).head? = some ar) (har : ar.arg = "self")
    (hks : F.scope.names.lookup ("super" : Str) = some .globalImplicit) (hgl : ∀ (env : Env), env.scope = F.scope → env.kindOf ("super" : Str) = some .globalImplicit)
    (hb : F.body = .Expr (.Call (.Attribute (.Call (.Name "super" p0) [] [] p1) "__init__" p2) [.Constant (.str x) j p3] [] p4) p5 :: rest)
    (len : ∀ vs H Q E, sp vs H Q E → vs.length = ps.length) (hself : ∀ vs H Q E, sp vs H Q E → ∃ a r, vs = .ref a :: r ∧ H a = some (exo a C none))
    (hrest : ∀ (A : Around) (outer : List Env) (s : Shared) (H : Hp) (vs : List V) (Q : VK) (E : XK), Room k (A.deeper (envF F f s.heap.objs.size)) → sp vs H Q E →
      ∃ t, PSs (ncx CX P w K mg base N F f A outer s H E) rest t ∧ t { nx := fun _ H' => Q .non H', rt := Q } (startF N vs [none]) H)
    (hcall : ∀ (env : Env), env.scope = F.scope → eval (.Call (.Attribute (.Call (.Name "super" p0) [] [] p1) "__init__" p2) [.Constant (.str x) j p3] [] p4) env = (do
      let ov ← attributeBase (.Call (.Name "super" p0) [] [] p1) "__init__" env (eval (.Call (.Name "super" p0) [] [] p1) env)
      standAt p2.atName
      let (f, first) ← holding [ov] (getMethod ov "__init__" pl)
      callWith p4 f first (backTo p4 (starEach [.Constant (.str x) j p3] env)) []))
    (hsw : ∀ (env : Env), swapsWith (.Call (.Attribute (.Call (.Name "super" p0) [] [] p1) "__init__" p2) [.Constant (.str x) j p3] [] p4) none p5.line env = pure false) :
    FnOk P w K mg base CX (k + 1) f fd ps sp := by
  obtain ⟨oc, od, osl, doc, pm, an, ct, lk, rfl⟩ := SC.lk
  refine ⟨len, fun A outer s H args us vs Q E hr e0 hbd r hsp => ?_⟩
  have KX : K.In s.heap := e0.mod.kin.keeps fun b o e => (e0.bs b o e).1
  have hl := len _ _ _ _ hsp
  have lim : s.heap.NoLimit := e0.mod.nolimit.keeps fun b o e => (e0.bs b o e).1
  obtain ⟨cc, occ, hcl, lcc, dcc⟩ := SC.cl
  have hcb := e0.bs cc occ (e0.mod.kin _ _ lcc)
  have CA : CellsAt F.cl ["__class__"] [none] s.heap H := by
    rw [hcl]
    refine ⟨rfl, fun y c hy => ?_, fun y z c hy hz => ?_, fun i y hi => ?_⟩
    · have e : y = "__class__" ∧ cc = c := by
        simp only [List.lookup] at hy
        split at hy
        · exact ⟨by simpa using ‹(y == "__class__") = true›, Option.some.inj hy⟩
        · cases hy
      obtain ⟨_, rfl⟩ := e
      exact ⟨hcb.2, _, occ, hcb.1, dcc⟩
    · have e : ∀ y : Str, (List.lookup y [(("__class__" : Str), cc)]) = some c → y = "__class__" := fun y hy => by
        simp only [List.lookup] at hy
        split at hy
        · simpa using ‹(y == "__class__") = true›
        · cases hy
      rw [e y hy, e z hz]
    · cases i with
      | zero =>
        have : ("__class__" : Str) = y := Option.some.inj hi
        subst this
        exact ⟨cc, by simp [List.lookup], fun v hv => by cases hv⟩
      | succ i => simp at hi
  refine codeAny_call_function hr.depth (KX _ _ lk) rfl S.co S.gen rfl (PySem.W.codeRec_of KX SC.cd) (hbd _ _ _ _ ?_)
  refine wpAny_newFunctionEnv S.nocell (fun ⟨n, _⟩ hy => S.par n (List.of_mem_zip hy).1) (fun h₁ hns hsb => ⟨lim.fresh _ hsb, ?_⟩) S.kind
  show codeAny _ _ (.func F.body (envF F f s.heap.objs.size)) _ _
  refine ks_codeAny_funcAt ?_
  have kp : ∀ b o, s.heap.get? b = some o → h₁.get? b = some o := fun b o e => hsb.extBut b o (Nat.ne_of_lt (Heap.lt_size e)) (Heap.get?_push_of_some _ e)
  have I : Inv (ncx CX P w K mg base N F f A outer s H E) [] (startF N vs [none]) H { s with heap := h₁, toks := s.toks + (ps.zip us).length } := inv_startN S hr.hd e0 hl r CA hns kp
  obtain ⟨a, vr, rfl, ea⟩ := hself _ _ _ _ hsp
  obtain ⟨tr, ht, hq⟩ := hrest A outer s H _ Q E (hr.deeper _) hsp
  have fin : ∀ {σ' : L2.St} {H' : Hp} {v : V} {u : Value} {s' : Shared}, Inv (ncx CX P w K mg base N F f A outer s H E) [] σ' H' s' → L2.RelV v u → Q v H' → CE outer P w H s Q u s' :=
    fun {σ' H' v u s'} J rv q => ⟨v, H', J.os, J.bare, J.base, J.hok, rv, q⟩
  have goRest : ∀ s1, Inv (ncx CX P w K mg base N F f A outer s H E) [] (startF N (.ref a :: vr) [none]) H s1 → wpAny (model P w) (A.deeper (envF F f s.heap.objs.size)) (execs rest (envF F f s.heap.objs.size)) (fun fl s' => CR CX outer P w H s Q E (.ok (.ret (match fl with | .ret v => v | _ => .none))) s')
      (fun e s' => wpAny (model P w) (A.deeper (envF F f s.heap.objs.size)) (leaving (envF F f s.heap.objs.size) e) (fun _ s'' => CR CX outer P w H s Q E (.error e) s'') (fun e' s'' => CR CX outer P w H s Q E (.error e') s'') s') s1 := fun s1 J => by
    refine wpAny_mono (ht.run [] s1 _ H _ J hq) (fun fl s' hs => ?_) fun e s' hs => hs
    cases fl with
    | ret u =>
      obtain ⟨v, σ', H', J', rv, q⟩ := hs
      exact fin J' rv q
    | next =>
      obtain ⟨σ', H', J', q⟩ := hs
      exact fin (v := V.non) (u := Value.none) J' rfl q
    | brk =>
      obtain ⟨_, _, _, q⟩ := hs
      exact False.elim q
    | cont =>
      obtain ⟨_, _, _, q⟩ := hs
      exact False.elim q
  obtain ⟨m, hns1, hlook⟩ := id I.loc
  have hlocal : F.scope.names.lookup ("self" : Str) = some .local := S.par _ (List.mem_of_getElem? hp0)
  obtain ⟨uself, hself1, hself2⟩ : ∃ u, L2.RelV (.ref a) u ∧ m "self" = some u := by
    obtain ⟨u, ru, hlk⟩ := hlook 0 "self" (.ref a) hN0 (by unfold startF; rfl) (.inl hlocal)
    rcases hlk with ⟨_, e⟩ | ⟨k1, _⟩
    · exact ⟨u, ru, e⟩
    · have k1 : F.scope.names.lookup ("self" : Str) = some .cell ∨ F.scope.names.lookup ("self" : Str) = some .free := k1
      rw [hlocal] at k1
      rcases k1 with z | z <;> cases z
  obtain rfl : uself = Value.ref a := hself1
  have I0 := I
  have hkc : F.scope.names.lookup ("__class__" : Str) = some .free := S.frk _ (by simp)
  obtain ⟨oco, vsc, tcf, lco, dco, vco⟩ := SC.file
  obtain ⟨cdD, hcd⟩ := SC.cls
  obtain ⟨t1, ho⟩ := exo_at I.hok ea
  obtain ⟨nm, q, NN, bs, bm, sn, sub, ab, col, dd, k0, k1, k2, k3, k5, hC, hbm⟩ := T.cls
  rw [hb]
  generalize htk : s.toks + (ps.zip us).length = tk at *
  refine ks_wpAt_execs_cons (ks_wpAt_Expr_any (ks_wpAt_MethodCall (pl := pl) ?_ (hcall _ rfl)) (by unfold interactive; rw [show (envF F f s.heap.objs.size).scope.kind = .function from S.kind]; rfl) (hsw _))
  refine ks_wpAt_super_base (fd := PySem.W.fnX F.name F.qual F.params F.body F.scope F.cl .none .none doc pm an (.ref F.c) ct) (hgl _ rfl) hkc (by decide) rfl (I.kIn _ _ lk) rfl hp rfl (I.kIn _ _ lco) dco vco (by rw [pf.file]; simp) pf.sup ?_
  obtain ⟨mb, b1, b2⟩ := I.mod.blt
  refine PySem.W.ks_loadName_global S.kind (hgl _ rfl) (Calls.loadGlobal_builtin (I.mod.glob.keeps I.bk) SC.nosup (b1.keeps I.bk) ((b2 _ (by decide)).trans (show bootBuiltins ("super" : Str) = some (.type "super") by decide +kernel)) ⟨rfl, ?_⟩)
  refine wpAny_loadName_free S.kind hkc (c := cc) (by show List.lookup _ F.cl = _; rw [hcl]; rfl) ⟨occ, I.kIn _ _ lcc, dcc⟩ ?_
  rw [har]
  refine wpAny_loadName_local S.kind hlocal hns1 hself2 ?_
  obtain ⟨oD, hD1, hD2⟩ : ∃ oD, h₁.get? C = some oD ∧ oD.data = .cls cdD := by
    unfold PySem.W.clsIn at hcd
    split at hcd
    · rename_i c' d' cd' sl ho'
      cases hcd
      exact ⟨_, I.kIn _ _ ho', rfl⟩
    · cases hcd
  refine ks_wpAny_isType_cls hD1 hD2 ⟨rfl, ?_⟩
  refine ks_wpAny_call_super hD1 hD2 ho rfl (fun c z => by cases z) (PySem.W.looks_mroIn I.kIn SC.sub) (fun h2 hso k2 => ?_)
  have I2 := I.kept (t' := tk) k2
  have hrel : ((cdD.mro.dropWhile (· != .ref C)).drop 1) = (cdD.mro.dropWhile (· != .ref C)).drop 1 := rfl
  have hal : PySem.W.alongIn K "__init__" ((cdD.mro.dropWhile (· != .ref C)).drop 1) = some (some (.builtin "ValueError.__init__")) := by
    have z := SC.along
    unfold PySem.W.ks_superIn at z
    rw [hcd] at z
    exact z
  have hty : PySem.W.Looks (model P w) h2 (typeOf (.ref a)) (.ref C) := fun A Q E s k q => wpAny_typeOf_ref (k _ _ (k2 _ _ ho)) q
  have hne : a ≠ C := fun z => by
    rw [z, hD1] at ho
    cases ho
    cases hD2
  refine PySem.W.kxs_getMethod PySem.W.kxs_ValueError hso (PySem.W.looks_opaque I2.kIn SC.opq) (l₀ := cdD.mro) (fun A Q E s k q => wpAny_bind ((PySem.W.looks_clsIn I2.kIn hcd) A _ E s k (wpAny_pure q))) rfl I2.kIn hal (hty.andThen (PySem.W.looks_subIn I2.kIn SC.isVE)) hne (by decide) ?_
  have k3 : ∀ b o, h2.get? b = some o → (h2.push (PySem.W.kxs_mw "ValueError.__init__" a)).get? b = some o := fun b o e => Heap.get?_push_of_some _ e
  have I3 := I2.kept (t' := tk + 1) k3
  have hu3 : (h2.push (PySem.W.kxs_mw "ValueError.__init__" a)).get? h2.objs.size = some (PySem.W.kxs_mw "ValueError.__init__" a) := Heap.get?_push_at rfl rfl
  have I4 := I3.pins_of (pins' := [(h2.objs.size, PySem.W.kxs_mw "ValueError.__init__" a)]) fun p hp => by
    rcases List.mem_singleton.mp hp with rfl
    refine ⟨hu3, I2.hok.fresh (Nat.le_refl _), fun z => ?_, fun z => ?_, fun v z => by cases z⟩
    · have := I2.lt
      rw [← z] at this
      exact absurd this (Nat.lt_irrefl _)
    · obtain ⟨_, o', e', _⟩ := I2.ok.funs.mem z
      have z1 := Heap.lt_size e'
      have z2 := I2.sz
      exact absurd (Nat.lt_of_lt_of_le z1 z2) (Nat.lt_irrefl _)
  have hse : starEach [Expr.Constant (.str x) j p3] (envF F f s.heap.objs.size) = (false, eval (Expr.Constant (.str x) j p3) (envF F f s.heap.objs.size)) :: starEach [] (envF F f s.heap.objs.size) := rfl
  rw [hse]
  refine PySem.W.kxs_callWith (i := "ValueError.__init__") (x := a) (u := h2.objs.size) rfl (PySem.Calls.evalArgs_plain ?_)
  refine wpAny_mono ((pa_cons (X := ncx CX P w K mg base N F f A outer s H E) pe_str pa_nil rfl).run p4 _ _ _ H (fun vs H1 => H1 = H ∧ vs.length = 1) I4 ⟨rfl, rfl⟩) (fun us2 s3 hs3 => ?_) fun e s' hs => hs
  obtain ⟨vs2, H3, I5, r5, rfl, hl5⟩ := hs3
  obtain ⟨hp3, g3, d3, tk3, os3⟩ := s3
  have hu5 := (I5.pin (h2.objs.size, PySem.W.kxs_mw "ValueError.__init__" a) (List.mem_append_right _ (List.mem_singleton.mpr rfl))).1
  refine ⟨hu5, ?_⟩
  obtain ⟨t5, ho5⟩ := exo_at I5.hok ea
  refine call_mw (I5.kIn _ _ hC) ho5 hu5 (by rw [List.nil_append, ← r5.length, hl5, sizeLine_eq]; decide) (fun h' t6 k6 hx => ?_)
  have J := I5.write (t' := tk3) (x := a) (e := a) (o := exo a C none) (by rw [ea]; exact True.intro) (.inl rfl) k6 ⟨_, hx⟩ (exo_ok hx)
  have eu : upd H3 a (exo a C none) = H3 := by
    funext b
    by_cases hbb : b = a
    · rw [hbb, upd_same, ea]
    · rw [upd_ne hbb]
  rw [eu] at J
  exact wpAt_of_wpAny (goRest _ (J.pins_of fun p hp => absurd hp (by simp)))
/-! ### what is looked at of such a class -/
structure SupD where
  at_ : PySem.W.Frag → Addr
  name : Str
  qual : Str
  params : Arguments
  body : List Stmt
  scope : Scope
  clo : List Str := ["__class__"]
abbrev FnS : Type := Option (Str × Str × Arguments × FuncBody × Scope × Addr × List Str × Addr)
def fnS (K : PySem.W.Frag) (a : Addr) : FnS := match K.lookup a with
  | some ⟨_, _, .func fd, _⟩ => some (fd.name, fd.qualname, fd.params, fd.body, fd.scope, fd.globals, fd.closure.map (·.1), fd.builtins)
  | _ => none
def SupD.val (d : SupD) : FnS := some (d.name, d.qual, d.params, .stmts d.body, d.scope, mainGlobals, d.clo, builtinsNs)
def isNone : Value → Bool
  | .none => true
  | _ => false
theorem isNone_ok {v : Value} (h : isNone v = true) : v = .none := by cases v <;> first | rfl | cases h
def codeB (K : PySem.W.Frag) (v : Value) : Bool := match v with
  | .ref c => (match K.lookup c with
    | some ⟨_, _, .fields vs, _⟩ => (match (vs[2]? : Option Value) with
      | some (Value.str y _) => decide (y = ("/claim/cut.py" : Str))
      | _ => false)
    | _ => false)
  | _ => false
theorem codeB_ok {K : PySem.W.Frag} {v : Value} (h : codeB K v = true) : ∃ c, v = .ref c ∧ ∃ o vs t, K.lookup c = some o ∧ o.data = .fields vs ∧ vs[2]? = some (.str "/claim/cut.py" t) := by
  unfold codeB at h
  split at h
  · rename_i c
    split at h
    · rename_i oc od vs sl ho
      split at h
      · rename_i y t hv
        have e : y = ("/claim/cut.py" : Str) := of_decide_eq_true h
        subst e
        exact ⟨c, rfl, _, vs, t, ho, rfl, hv⟩
      · cases h
    · cases h
  · cases h
def cellB (K : PySem.W.Frag) (C : Addr) (l : List (Str × Addr)) : Bool := match l with
  | [(_, cc)] => (match K.lookup cc with
    | some ⟨_, _, .cell (some (.ref D)), _⟩ => decide (D = C)
    | _ => false)
  | _ => false
theorem cellB_ok {K : PySem.W.Frag} {C : Addr} {l : List (Str × Addr)} (h : cellB K C l = true) : ∃ y cc o, l = [(y, cc)] ∧ K.lookup cc = some o ∧ o.data = .cell (some (.ref C)) := by
  unfold cellB at h
  split at h
  · rename_i y cc
    split at h
    · rename_i oc od D sl ho
      have e : D = C := of_decide_eq_true h
      subst e
      exact ⟨y, cc, _, rfl, ho, rfl⟩
    · cases h
  · cases h
def supB (K : PySem.W.Frag) (C : Addr) (d : SupD) : Bool := match K.lookup (d.at_ K) with
  | some ⟨_, _, .func fd, _⟩ => PySem.W.codeIn K fd.code d.qual && (isNone fd.defaults && (isNone fd.kwdefaults && (codeB K fd.code && cellB K C fd.closure)))
  | _ => false
def oexB (K : PySem.W.Frag) (C : Addr) : Bool := match K.lookup C with
  | some ⟨.type ty, _, .cls cd, sl⟩ => (match cd.mro, sl.toList with
    | .ref C' :: bm, [_, _, _, _, some (.builtin n), _] => decide (ty = "type") && (decide (C' = C) && (decide (n = "ValueError.__new__") && (!cd.hasDel && (cd.hasDict && HandSPX.refsVE bm))))
    | _, _ => false)
  | _ => false
theorem oexB_ok {K : PySem.W.Frag} {C : Addr} (h : oexB K C = true) : ∃ nm q N bs bm sn sub ab col dd k0 k1 k2 k3 k5, K.lookup C = some (excClassObj nm q C N bs bm true sn sub ab col dd k0 k1 k2 k3 k5 "ValueError.__new__") ∧ PySem.HandSPX.refsVE bm = true := by
  unfold oexB at h
  split at h
  · rename_i ty dd cd sl ho
    split at h
    · rename_i C' bm k0 k1 k2 k3 n k5 hm hs
      simp only [Bool.and_eq_true, decide_eq_true_eq, Bool.not_eq_true'] at h
      obtain ⟨rfl, rfl, rfl, hdel, hdict, hr⟩ := h
      obtain ⟨nm, bs, mro, ns, qn, hd, sn, sub, ab, col, del⟩ := cd
      dsimp only at hm hdel hdict
      subst hm hdel hdict
      have hsl : sl = #[k0, k1, k2, k3, some (.builtin "ValueError.__new__"), k5] := by
        obtain ⟨l⟩ := sl
        simp only at hs
        rw [hs]
      subst hsl
      exact ⟨nm, qn, ns, bs, bm, sn, sub, ab, col, dd, k0, k1, k2, k3, k5, ho, hr⟩
    · cases h
  · cases h
/-- an own exception class with an __init__ of its own: C's facts -/
def xclB (K : PySem.W.Frag) (C : Addr) (fs : List Str) : Bool :=
  oexB K C && (decide (PySem.W.findIn K (.ref C) "__setattr__" = some (some (.builtin "object.__setattr__"))) && (decide (PySem.W.subIn K (.ref C) (.type "BaseException") = some true) && (decide (PySem.W.typeIn K (.ref C) = some (.type "type")) && (PySem.W.keepIn K (.ref C) &&
  (decide (PySem.W.findIn K (.ref C) "__init__" = some (some (.ref (He.ma K C "__init__")))) && (decide (PySem.W.typeIn K (.ref (He.ma K C "__init__")) = some (.type "function")) && (decide (PySem.W.mroIn K C (.ref C) = some true) &&
  (decide (PySem.W.ks_superIn K C C "__init__" = some (some (.builtin "ValueError.__init__"))) && (decide (PySem.W.subIn K (.ref C) (.type "ValueError") = some true) && (decide (PySem.W.nsIn K cStatics "thirdparty.any" = some none) && (decide (PySem.W.nsIn K mainGlobals "super" = some none) &&
  (xfB K C && fs.all fun f => decide (PySem.W.findIn K (.ref C) f = some none)))))))))))))
structure XclC (K : PySem.W.Frag) (C : Addr) (fs : List Str) : Prop where
  o : OexC K C
  ini : PySem.W.findIn K (.ref C) "__init__" = some (some (.ref (He.ma K C "__init__")))
  tyI : PySem.W.typeIn K (.ref (He.ma K C "__init__")) = some (.type "function")
  sub : PySem.W.mroIn K C (.ref C) = some true
  along : PySem.W.ks_superIn K C C "__init__" = some (some (.builtin "ValueError.__init__"))
  isVE : PySem.W.subIn K (.ref C) (.type "ValueError") = some true
  opq : PySem.W.nsIn K cStatics "thirdparty.any" = some none
  nosup : PySem.W.nsIn K mainGlobals "super" = some none
  xf : XfC K C
  no : ∀ f ∈ fs, PySem.W.findIn K (.ref C) f = some none
theorem xclB_ok {K : PySem.W.Frag} {C : Addr} {fs : List Str} (h : xclB K C fs = true) : XclC K C fs := by
  unfold xclB at h
  simp only [Bool.and_eq_true, decide_eq_true_eq, List.all_eq_true] at h
  obtain ⟨h1, h2, h3, h4, h5, h6, h7, h8, h9, h10, h11, h12, h13, h14⟩ := h
  exact ⟨⟨oexB_ok h1, h2, h3, h4, h5⟩, h6, h7, h8, h9, h10, h11, h12, xfB_ok h13, h14⟩
theorem supC_of {K : PySem.W.Frag} {mg : Str → Option Value} {C : Addr} {d : SupD} {fs : List Str} {h : Heap} (X : K.In h) (G : h.Ns mainGlobals mg) (hC : d.at_ K = He.ma K C "__init__") (hclo : d.clo = [("__class__" : Str)]) (e : fnS K (d.at_ K) = d.val) (b : supB K C d = true) (c : XclC K C fs) :
    ∃ (fd : FuncData) (cl : List (Str × Addr)) (cA : Addr), SupC K mg C (He.ma K C "__init__") ⟨d.name, d.qual, d.params, d.body, d.scope, cl, cA⟩ fd := by
  unfold supB at b
  unfold fnS at e
  cases q : K.lookup (d.at_ K) with
  | none => rw [q] at b; cases b
  | some o =>
    obtain ⟨oc, od, dt, osl⟩ := o
    rw [q] at b e
    cases dt with
    | func fd =>
      obtain ⟨n1, n2, n3, n4, n5, n6, n7, n8, n9, n10, n11, n12, n13, n14, n15⟩ := fd
      have e2 : (some (n1, n2, n3, n4, n5, n6, n7.map (·.1), n15) : FnS) = some (d.name, d.qual, d.params, FuncBody.stmts d.body, d.scope, mainGlobals, d.clo, builtinsNs) := e
      simp only [Option.some.injEq, Prod.mk.injEq] at e2
      obtain ⟨h1, h2, h3, h4, h5, h6, h7, h8⟩ := e2
      subst h1 h2 h3 h4 h5 h6 h8
      have b2 : (PySem.W.codeIn K n13 d.qual && (isNone n8 && (isNone n9 && (codeB K n13 && cellB K C n7)))) = true := b
      simp only [Bool.and_eq_true] at b2
      obtain ⟨b3, b4, b5, b6, b7⟩ := b2
      obtain ⟨cA, rfl, hfile⟩ := codeB_ok b6
      obtain ⟨y, cc, occ, rfl, lcc, dcc⟩ := cellB_ok b7
      cases isNone_ok b4
      cases isNone_ok b5
      rw [hclo] at h7
      have hy : y = "__class__" := by simpa using h7
      subst hy
      obtain ⟨nm, qq, N, bs, bm, sn, sub, ab, col, dd, k0, k1, k2, k3, k5, lC, _⟩ := c.o.cls
      refine ⟨_, [("__class__", cc)], cA, ⟨⟨oc, od, osl, n10, n11, n12, n14, by rw [← hC]; exact q, rfl⟩, b3, hfile, ⟨cc, occ, rfl, lcc, dcc⟩, ⟨_, by unfold PySem.W.clsIn; rw [lC]⟩, c.sub, c.along, c.isVE, c.opq, PySem.W.mg_none_of X G c.nosup⟩⟩
    | _ => cases b
/-! ### the hook with such defs -/
abbrev AlZ : Type := (He.AlT × Bool) × List FnS
/-- the part of the heap that is looked at -/
def frZ (g : Addr → Option Obj) (n : Nat) : PySem.W.Frag := He.frT g (cStatics :: He.asD g n)
def obsZ (n : Nat) (fa : List He.Fa) (fn : List He.DefD) (sd : List SupD) (ex : PySem.W.Frag → Bool) (g : Addr → Option Obj) : AlZ := ((He.obsT fa fn [] (frZ g n), ex (frZ g n)), sd.map fun d => fnS (frZ g n) (d.at_ (frZ g n)))
def valZ (fn : List He.DefD) (sd : List SupD) (w : World) : AlZ := ((He.valT fn [] w, true), sd.map SupD.val)
structure SaysZ (fa : List He.Fa) (fn : List He.DefD) (sd : List SupD) (ex : PySem.W.Frag → Bool) (w : World) (h : Heap) (K : PySem.W.Frag) : Prop where
  t : He.SaysT fa fn [] w K
  more : ex K = true
  s : sd.map (fun d => fnS K (d.at_ K)) = sd.map SupD.val
theorem saysZ_of {n : Nat} {fa : List He.Fa} {fn : List He.DefD} {sd : List SupD} {ex : PySem.W.Frag → Bool} {w : World} {h : Heap} (e : obsZ n fa fn sd ex h.get? = valZ fn sd w) : SaysZ fa fn sd ex w h (frZ h.get? n) :=
  ⟨congrArg (fun z : AlZ => z.1.1) e, congrArg (fun z : AlZ => z.1.2) e, congrArg (fun z : AlZ => z.2) e⟩
def hookZ (n : Nat) (fa : List He.Fa) (fn : List He.DefD) (sd : List SupD) (ex : PySem.W.Frag → Bool) : PySem.W.Hook where
  α := AlZ
  obs := fun s => obsZ n fa fn sd ex s.heap.get?
  val := fun w => valZ fn sd w
  says := fun w h => ∃ K : PySem.W.Frag, K.In h ∧ SaysZ fa fn sd ex w h K
  of := fun _ _ e => ⟨_, He.frT_in, saysZ_of e⟩
  keeps := fun _ _ _ ⟨K, hK, c⟩ k => ⟨K, PySem.W.Frag.In.keeps hK k, ⟨c.t, c.more, c.s⟩⟩
theorem obsZ_eq {n : Nat} {fa : List He.Fa} {fn : List He.DefD} {sd : List SupD} {ex : PySem.W.Frag → Bool} {g : Addr → Option Obj} {s : Shared} (h : ∀ a, g a = s.heap.get? a) : obsZ n fa fn sd ex g = (hookZ n fa fn sd ex).obs s := by
  have e : g = s.heap.get? := funext h
  rw [e] <;> rfl
theorem SaysZ.sup {fa : List He.Fa} {fn : List He.DefD} {sd : List SupD} {ex : PySem.W.Frag → Bool} {w : World} {h : Heap} {K : PySem.W.Frag} (c : SaysZ fa fn sd ex w h K) {d : SupD} (i : Nat) (hi : sd[i]? = some d) : fnS K (d.at_ K) = d.val := by
  have e2 : (sd.map fun d => fnS K (d.at_ K))[i]? = (sd.map SupD.val)[i]? := by rw [c.s]
  rw [List.getElem?_map, List.getElem?_map, hi] at e2
  exact Option.some.inj e2
end WL
/-! Own exceptions with fields, over plain data. -/
namespace WL
open PySem PySem.Spec PyProof.Rows L2 NdefX
/-- the promise of such an __init__: the fields stand -/
def spI (C : Addr) (fs : List Str) : Sp := fun vs H Q _ => ∃ (a : Addr) (ys : List V), vs = .ref a :: ys ∧ ys.length = fs.length ∧ H a = some (exo a C none) ∧ ∀ dx, H dx = none → dx ≠ a → Q .non (upd (upd H dx (exd dx (fs.reverse.zip ys.reverse))) a (exo a C (some dx)))
section
variable {Y : Cy} {ρ : Ρ} {c : List Cell} {n0 : Nat} {Z : EndsW}
theorem ims_rps {K : PySem.W.Frag} {I : Hp} {th : List Addr} : ∀ {ds : List D} {vs : List V}, RWs K I th (ds.map W.im) vs → Rps K I ds vs
  | [], _, h => h
  | d :: ds, _, ⟨v, r, h1, h2, h3⟩ => ⟨v, r, h1, h2, ims_rps h3⟩
theorem ws_raiseX {k : Nat} {C : Addr} {fs ps : List Str} {fd : FuncData} {x : Str} {e : Expr} {es : List Expr} {p pp pos : Pos} {P : Program} {wd : World} {K : PySem.W.Frag} {mg : Str → Option Value} {base : Heap}
    (XC : XclC K C fs) (hF : FnOk P wd K mg base (L2.CX P wd) k (He.ma K C "__init__") fd ps (spI C fs)) (hb : Binds K fd ps []) (hm : mg x = some (.ref C)) (hY : CyIs Y P wd K mg base) (hcm : Y.X.calm = true) (hr : Room (k + 1) Y.X.A) (hg : Gl Y.X x)
    (hdb : (x == ("__debug__" : Str)) = false) (he : starEach (e :: es) Y.X.env = (false, eval e Y.X.env) :: starEach es Y.X.env) (hpl : (backTo pp (starEach es Y.X.env)).any (·.1) = false) (hfl : fs.length ≤ 900)
    (h : WA Y ρ c (e :: es) fun ws c1 => ∃ ds : List D, ws = ds.map W.im ∧ ds.length = fs.length ∧ Y.Qx ⟨C, fs.reverse, ds.reverse⟩ ρ c1) : WS Y n0 ρ c (.Raise (some (.Call (.Name x p) (e :: es) [] pp)) none pos) Z := fun κ0 κ σ h0 l hc o r De E => by
  obtain ⟨rfl, rfl, rfl, rfl, rfl⟩ := hY
  refine PS.w (ps_raise hcm Y.tk (pmk_oex XC.o XC.ini XC.tyI hF hr hb .nil passL hg hm pa_w hdb he hpl)) (h.bind hc o r (E.gox l r) fun vs ws κ1 l1 o1 r1 g1 rws ⟨ds, e1, hl, q⟩ => ?_)
  subst e1
  have rps := ims_rps rws
  have hvl := rps.len
  refine ⟨by omega, fun a ha => ?_⟩
  refine ⟨a, vs, by rw [List.append_nil], by omega, upd_same, fun dx hdx hne => ?_⟩
  have hd1 : κ1.H dx = none := by rw [upd_ne hne] at hdx; exact hdx
  refine ⟨rfl, dx, _, upd_same, by rw [upd_ne hne, upd_same], hd1, ?_⟩
  have eH : upd (del (upd (upd (upd κ1.H a (exo a C none)) dx (exd dx (fs.reverse.zip vs.reverse))) a (exo a C (some dx))) a) dx (HO.xd (fs.reverse.zip vs.reverse)) = upd κ1.H dx (HO.xd (fs.reverse.zip vs.reverse)) := by
    funext b
    by_cases hbd : b = dx
    · subst hbd; rw [upd_same, upd_same]
    · rw [upd_ne hbd, upd_ne hbd]
      by_cases hba : b = a
      · subst hba; rw [del_same, ha]
      · rw [del_ne hba, upd_ne hba, upd_ne hbd, upd_ne hba]
  rw [eH]
  refine g1.ex ⟨C, fs.reverse, ds.reverse⟩ (.ref C) (some dx) ⟨κ1.I, upd κ1.H dx (HO.xd (fs.reverse.zip vs.reverse)), κ1.th, κ1.c⟩ (Wd.aux_le hd1) (o1.aux hd1) ⟨rfl, .inr ⟨dx, vs.reverse, rfl, upd_same, ?_, Rps.rev rps⟩⟩ q
  show fs.reverse.length = _
  rw [List.length_reverse, List.length_reverse]; omega
/-! ### except C as n: y = n.f -/
theorem look_zip {K : PySem.W.Frag} {I : Hp} {f : Str} : ∀ {ns : List Str} {l : List D} {vs : List V} {d : D}, Rps K I l vs → (ns.zip l).lookup f = some d → ∃ v, (ns.zip vs).lookup f = some v ∧ Rp K I d v
  | [], _, _, _, _, h => by simp at h
  | _ :: _, [], _, _, _, h => by simp at h
  | n :: ns, e :: l, _, d, ⟨v, r, rfl, h2, h3⟩, h => by
    rw [List.zip_cons_cons, List.lookup] at h
    rw [List.zip_cons_cons, List.lookup]
    split at h
    · cases h
      rename_i hq
      exact ⟨v, rfl, h2⟩
    · rename_i hq
      obtain ⟨u, q1, q2⟩ := look_zip (f := f) h3 h
      exact ⟨u, q1, q2⟩
end
/-! ### the two kinds of such an __init__: one field, two -/
section
variable {CX : CXT} {P : Program} [pf : PFile P] {w : World} {K : PySem.W.Frag} {mg : Str → Option Value} {base : Heap} {F : NF} {f C : Addr} {fd : FuncData} {p0 p1 p2 p3 p4 p5 q0 q1 q2 q3 r0 r1 r2 r3 : Pos} {j : Nat} {x u v g1 g2 : Str} {ar : Arg} {pl : Sem Bool}
theorem fn_sup1 (SC : SupC K mg C f F fd) (T : OexC K C) (S : NScope ["self", u, "__class__"] ["self", u] ["__class__"] F.scope) (hp : (F.params.posonlyargs ++ F.params.args).head? = some ar) (har : ar.arg = "self")
    (hks : F.scope.names.lookup ("super" : Str) = some .globalImplicit) (hgl : ∀ (env : Env), env.scope = F.scope → env.kindOf ("super" : Str) = some .globalImplicit)
    (hno1 : PySem.W.findIn K (.ref C) g1 = some none) (hd1 : (u == ("__debug__" : Str)) = false) (hc1 : (u == ("__classdict__" : Str)) = false)
    (hb : F.body = [.Expr (.Call (.Attribute (.Call (.Name "super" p0) [] [] p1) "__init__" p2) [.Constant (.str x) j p3] [] p4) p5, .Assign [.Attribute (.Name "self" q0) g1 q1] (.Name u q2) q3])
    (hcall : ∀ (env : Env), env.scope = F.scope → eval (.Call (.Attribute (.Call (.Name "super" p0) [] [] p1) "__init__" p2) [.Constant (.str x) j p3] [] p4) env = (do
      let ov ← attributeBase (.Call (.Name "super" p0) [] [] p1) "__init__" env (eval (.Call (.Name "super" p0) [] [] p1) env)
      standAt p2.atName
      let (f, first) ← holding [ov] (getMethod ov "__init__" pl)
      callWith p4 f first (backTo p4 (starEach [.Constant (.str x) j p3] env)) []))
    (hsw : ∀ (env : Env), swapsWith (.Call (.Attribute (.Call (.Name "super" p0) [] [] p1) "__init__" p2) [.Constant (.str x) j p3] [] p4) none p5.line env = pure false)
    (hsw1 : ∀ (env : Env), swapsWith (.Name u q2) (some (.Attribute (.Name "self" q0) g1 q1)) q3.line env = pure false) : FnOk P w K mg base CX 1 f fd ["self", u] (spI C [g1]) := by
  refine fn_sup (k := 0) (pl := pl) SC T S rfl rfl hp har hks hgl hb (fun vs H Q E ⟨a, ys, e, hl, _⟩ => by rw [e, List.length_cons, hl]; rfl) (fun vs H Q E ⟨a, ys, e, _, h, _⟩ => ⟨a, ys, e, h⟩) (fun A outer s H vs Q E hr ⟨a, ys, e, hl, ea, q⟩ => ?_) hcall hsw
  subst e
  obtain ⟨y, rfl⟩ : ∃ y, ys = [y] := by
    match ys, hl with
    | [y], _ => exact ⟨y, rfl⟩
  refine ⟨_, pss_one (ps_ost (pe_var (i := 0) rfl (.inl (S.par _ (by simp)))) (pe_var (i := 1) rfl (.inl (S.par _ (by simp))) hd1 hc1) (hsw1 _)), ?_⟩
  exact ⟨y, rfl, .ref a, rfl, a, C, rfl, T, hno1, .inl ⟨ea, fun dx h1 h2 => q dx h1 h2⟩⟩
theorem fn_sup2 (SC : SupC K mg C f F fd) (T : OexC K C) (S : NScope ["self", u, v, "__class__"] ["self", u, v] ["__class__"] F.scope) (hp : (F.params.posonlyargs ++ F.params.args).head? = some ar) (har : ar.arg = "self")
    (hks : F.scope.names.lookup ("super" : Str) = some .globalImplicit) (hgl : ∀ (env : Env), env.scope = F.scope → env.kindOf ("super" : Str) = some .globalImplicit)
    (hno1 : PySem.W.findIn K (.ref C) g1 = some none) (hno2 : PySem.W.findIn K (.ref C) g2 = some none) (hd1 : (u == ("__debug__" : Str)) = false) (hc1 : (u == ("__classdict__" : Str)) = false) (hd2 : (v == ("__debug__" : Str)) = false) (hc2 : (v == ("__classdict__" : Str)) = false)
    (hb : F.body = [.Expr (.Call (.Attribute (.Call (.Name "super" p0) [] [] p1) "__init__" p2) [.Constant (.str x) j p3] [] p4) p5, .Assign [.Attribute (.Name "self" q0) g1 q1] (.Name u q2) q3, .Assign [.Attribute (.Name "self" r0) g2 r1] (.Name v r2) r3])
    (hcall : ∀ (env : Env), env.scope = F.scope → eval (.Call (.Attribute (.Call (.Name "super" p0) [] [] p1) "__init__" p2) [.Constant (.str x) j p3] [] p4) env = (do
      let ov ← attributeBase (.Call (.Name "super" p0) [] [] p1) "__init__" env (eval (.Call (.Name "super" p0) [] [] p1) env)
      standAt p2.atName
      let (f, first) ← holding [ov] (getMethod ov "__init__" pl)
      callWith p4 f first (backTo p4 (starEach [.Constant (.str x) j p3] env)) []))
    (hsw : ∀ (env : Env), swapsWith (.Call (.Attribute (.Call (.Name "super" p0) [] [] p1) "__init__" p2) [.Constant (.str x) j p3] [] p4) none p5.line env = pure false)
    (hsw1 : ∀ (env : Env), swapsWith (.Name u q2) (some (.Attribute (.Name "self" q0) g1 q1)) q3.line env = pure false) (hsw2 : ∀ (env : Env), swapsWith (.Name v r2) (some (.Attribute (.Name "self" r0) g2 r1)) r3.line env = pure false) :
    FnOk P w K mg base CX 1 f fd ["self", u, v] (spI C [g1, g2]) := by
  refine fn_sup (k := 0) (pl := pl) SC T S rfl rfl hp har hks hgl hb (fun vs H Q E ⟨a, ys, e, hl, _⟩ => by rw [e, List.length_cons, hl]; rfl) (fun vs H Q E ⟨a, ys, e, _, h, _⟩ => ⟨a, ys, e, h⟩) (fun A outer s H vs Q E hr ⟨a, ys, e, hl, ea, q⟩ => ?_) hcall hsw
  subst e
  obtain ⟨y, z, rfl⟩ : ∃ y z, ys = [y, z] := by
    match ys, hl with
    | [y, z], _ => exact ⟨y, z, rfl⟩
  refine ⟨_, pss_cons (ps_ost (pe_var (i := 0) rfl (.inl (S.par _ (by simp)))) (pe_var (i := 1) rfl (.inl (S.par _ (by simp))) hd1 hc1) (hsw1 _)) (pss_one (ps_ost (pe_var (i := 0) rfl (.inl (S.par _ (by simp)))) (pe_var (i := 2) rfl (.inl (S.par _ (by simp))) hd2 hc2) (hsw2 _))), ?_⟩
  refine ⟨y, rfl, .ref a, rfl, a, C, rfl, T, hno1, .inl ⟨ea, fun dx h1 h2 => ?_⟩⟩
  refine ⟨z, rfl, .ref a, rfl, a, C, rfl, T, hno2, .inr ⟨dx, [(g1, y)], upd_same, by rw [upd_ne h2, upd_same], Nat.le_of_ble_eq_true rfl, ?_⟩⟩
  have eH : upd (upd (upd H dx (exd dx [(g1, y)])) a (exo a C (some dx))) dx (exd dx ((g2, z) :: [(g1, y)])) = upd (upd H dx (exd dx [(g2, z), (g1, y)])) a (exo a C (some dx)) := by
    funext b
    by_cases hb1 : b = dx
    · subst hb1
      rw [upd_same, upd_ne h2, upd_same]
    · rw [upd_ne hb1]
      by_cases hb2 : b = a
      · subst hb2; rw [upd_same, upd_same]
      · rw [upd_ne hb2, upd_ne hb1, upd_ne hb2, upd_ne hb1]
  show Q .non _
  rw [eH]
  exact q dx h1 h2
end
/-- an own exception class with fields stands under its name -/
structure HasX (P : Program) (w : World) (K : PySem.W.Frag) (mg : Str → Option Value) (base : Heap) (k : Nat) (x : Str) (C : Addr) (ps fs : List Str) : Prop where
  xc : XclC K C fs
  ex : ∃ fd, mg x = some (.ref C) ∧ FnOk P w K mg base (L2.CX P w) k (He.ma K C "__init__") fd ps (spI C fs) ∧ Binds K fd ps []
theorem ws_raiseXF {Y : Cy} {ρ : Ρ} {c : List Cell} {n0 : Nat} {Z : EndsW} {k : Nat} {C : Addr} {fs ps : List Str} {x : Str} {e : Expr} {es : List Expr} {p pp pos : Pos} {P : Program} {wd : World} {K : PySem.W.Frag} {mg : Str → Option Value} {base : Heap}
    (hx : HasX P wd K mg base k x C ps fs) (hY : CyIs Y P wd K mg base) (hcm : Y.X.calm = true) (hr : Room (k + 1) Y.X.A) (hg : Gl Y.X x)
    (hdb : (x == ("__debug__" : Str)) = false) (he : starEach (e :: es) Y.X.env = (false, eval e Y.X.env) :: starEach es Y.X.env) (hpl : (backTo pp (starEach es Y.X.env)).any (·.1) = false) (hfl : fs.length ≤ 900)
    (h : WA Y ρ c (e :: es) fun ws c1 => ∃ ds : List D, ws = ds.map W.im ∧ ds.length = fs.length ∧ Y.Qx ⟨C, fs.reverse, ds.reverse⟩ ρ c1) : WS Y n0 ρ c (.Raise (some (.Call (.Name x p) (e :: es) [] pp)) none pos) Z := by
  obtain ⟨fd, hm, hF, hb⟩ := hx.ex
  exact ws_raiseX hx.xc hF hb hm hY hcm hr hg hdb he hpl hfl h
end WL
/-! A property of an own class. -/
/-! {} as data; a tuple repeated; own == with another kind of value. -/
/-! Own methods that may raise; slices of texts; texts and lists repeated. -/
/-! A list made to be changed, and put away when that is done. -/
/-! A walk over the values of a dict that was just made. -/
/-! A dict by rows of pairs (text, number), its values lists that grow. -/
namespace WL
open PySem PySem.Spec PyProof.Rows L2
/-! ### the keys -/
abbrev SK := List (Str × Int)
def skD (l : SK) : D := .tup (l.map fun x => .tup [.str x.1, .int x.2])
def skN (l : SK) : NestedKey := .tup (l.map fun x => .tup [.text x.1, .num x.2])
theorem skN_inj {l m : SK} (h : skN l = skN m) : l = m := by
  have h : l.map (fun x => NestedKey.tup [.text x.1, .num x.2]) = m.map fun x => NestedKey.tup [.text x.1, .num x.2] := NestedKey.tup.inj h
  refine List.map_inj_right (fun x y e => ?_) |>.mp h
  have e := NestedKey.tup.inj e
  simp only [List.cons.injEq, NestedKey.text.injEq, NestedKey.num.injEq, and_true] at e
  exact Prod.ext e.1 e.2
/-! ### the objects -/
end WL
/-! .. as a cell; its lists become data; a walk over its values. -/
namespace WL
open PySem PySem.Spec PyProof.Rows L2
/-- keys, values, entries -/
inductive Kyd (K : PySem.W.Frag) (I : Hp) : List SK → List V → List (NestedKey × Addr × Value) → Prop
  | nil : Kyd K I [] [] []
  | cons {k : SK} {ks : List SK} {v : V} {vs : List V} {b : Addr} {u : Value} {xs : List (NestedKey × Addr × Value)} : Rp K I (skD k) (.ref b) → RelV v u → Kyd K I ks vs xs → Kyd K I (k :: ks) (v :: vs) ((skN k, b, u) :: xs)
section
variable {K : PySem.W.Frag} {I I' : Hp} {ks : List SK} {vs : List V} {xs : List (NestedKey × Addr × Value)}
theorem Kyd.ex (h : Kyd K I ks vs xs) (e : Ex I I') : Kyd K I' ks vs xs := by
  induction h with
  | nil => exact .nil
  | cons a b _ ih => exact .cons (Rp.ex e _ a) b ih
theorem Kyd.keys (h : Kyd K I ks vs xs) : xs.map (·.1) = ks.map skN := by
  induction h with
  | nil => rfl
  | cons a b _ ih => rw [List.map_cons, List.map_cons, ih]
theorem Kyd.len (h : Kyd K I ks vs xs) : vs.length = ks.length ∧ xs.length = ks.length := by
  induction h with
  | nil => exact ⟨rfl, rfl⟩
  | cons a b _ ih => exact ⟨by rw [List.length_cons, List.length_cons, ih.1], by rw [List.length_cons, List.length_cons, ih.2]⟩
theorem Kyd.at_ (h : Kyd K I ks vs xs) {k : SK} {p : Addr × Value} (e : atKey xs (skN k) = some p) : ∃ (i : Nat) (v : V), ks[i]? = some k ∧ vs[i]? = some v ∧ RelV v p.2 := by
  induction h with
  | nil => simp [atKey] at e
  | @cons k2 ks v vs b u xs a r _ ih =>
    by_cases q : skN k2 = skN k
    · have : p = (b, u) := by simpa [atKey, List.find?_cons, q] using e.symm
      subst this
      exact ⟨0, v, by rw [skN_inj q]; rfl, rfl, r⟩
    · have e2 : atKey xs (skN k) = some p := by simpa [atKey, List.find?_cons, q] using e
      obtain ⟨i, v2, h1, h2, h3⟩ := ih e2
      exact ⟨i + 1, v2, by simpa using h1, by simpa using h2, h3⟩
theorem Kyd.no (h : Kyd K I ks vs xs) {k : SK} (e : atKey xs (skN k) = none) : k ∉ ks := fun hm => by
  have : skN k ∈ xs.map (·.1) := by rw [h.keys]; exact List.mem_map_of_mem hm
  obtain ⟨x, hx, hk⟩ := List.mem_map.mp this
  have e : (xs.find? fun x => decide (x.1 = skN k)) = none := by
    unfold atKey at e
    simpa using e
  have := List.find?_eq_none.mp e x hx
  simp [hk] at this
end
/-! ### a walk over the values -/
end WL
/-! The dict's lists become data; a comprehension over its values. -/
/-! [x for x in d.values() if ..], the dict a cell. -/
namespace WL
open PySem PySem.Spec PyProof.Rows L2
section
variable {Y : Cy} {ρ : Ρ} {c : List Cell} {Q : KQ} {K : PySem.W.Frag}
variable {ρ2 : Ρ} {n0 : Nat} {Z : EndsW}
/-- the slots behind: forgotten, or as before and of cells that stay -/
def DropOk (n : Nat) : Ρ → Ρ → Prop
  | [], [] => True
  | none :: r, _ :: r' => DropOk n r r'
  | some w :: r, o :: r' => (o = some w ∧ w.below n = true) ∧ DropOk n r r'
  | _, _ => False
theorem DropOk.get {n : Nat} : ∀ {r r' : Ρ}, DropOk n r r' → r.length = r'.length ∧ ∀ (i : Nat) w, r[i]? = some (some w) → r'[i]? = some (some w) ∧ w.below n = true
  | [], [], _ => ⟨rfl, fun i w h => by simp at h⟩
  | none :: r, _ :: r', h => by
    obtain ⟨h1, h2⟩ := DropOk.get (r := r) (r' := r') h
    refine ⟨by rw [List.length_cons, List.length_cons, h1], fun i w hi => ?_⟩
    cases i with
    | zero => simp at hi
    | succ i => exact h2 i w (by simpa using hi)
  | some w0 :: r, o :: r', ⟨⟨eo, e⟩, h⟩ => by
    subst eo
    obtain ⟨h1, h2⟩ := DropOk.get (r := r) (r' := r') h
    refine ⟨by rw [List.length_cons, List.length_cons, h1], fun i w hi => ?_⟩
    cases i with
    | zero =>
      have hi : w0 = w := by simpa using hi
      subst hi
      exact ⟨rfl, e⟩
    | succ i => exact h2 i w (by simpa using hi)
/-- cells that nothing speaks of any more go -/
theorem wss_drop {sts : List Stmt} {d : List Cell} (h0 : n0 ≤ c.length) (hcl : clo c.length c = true) (hf : DropOk c.length ρ2 ρ) (h : WSs Y n0 ρ2 c sts Z) : WSs Y n0 ρ (c ++ d) sts Z := fun κ0 κ σ hl le hc o r De E => by
  obtain ⟨q1, q2⟩ := hf.get
  have hcl2 : clo c.length κ.c = true := by rw [hc, clo_take (Nat.le_refl _)]; exact hcl
  refine h κ0 ⟨κ.I, κ.H, κ.th.take c.length, κ.c.take c.length⟩ σ hl (le.takeM (by omega)) (by show κ.c.take c.length = c; rw [hc, take_app]) (o.take hcl2) ⟨by rw [r.len, q1], fun i w hi => ?_⟩ De E
  obtain ⟨p1, p2⟩ := q2 i w hi
  obtain ⟨v, h1, h2⟩ := r.at_ i w p1
  exact ⟨v, h1, h2.take p2⟩
end
end WL
/-! Within an except suite: a list's end, all(), comprehensions, defs that are called there. -/
namespace WL
open PySem PySem.Spec PyProof.Rows L2 L2H HotX
/-! ### a list that ends while an exception is handled -/
section
variable {prog : Program} {w : World} {A : Around} {E : Value → Shared → Prop} {s : Shared}
theorem next_list_hot {it l x1 : Addr} {i : Nat} {its : Array Value} {Q : Option Value → Shared → Prop} (hot : HotAt A x1 s.heap) (hne : x1 ≠ it) (hit : s.heap.IsListIter it l i) (hls : s.heap.IsList l its) (hx : its[i]? = none)
    (hQ : ∀ h', Heap.ExtBut it s.heap h' → Q none { s with heap := h' }) : wpAny (model prog w) A (pyNext (.ref it)) Q E s := by
  obtain ⟨hh, o1, vs1, g1, d1, c1⟩ := hot
  obtain ⟨oi, hoi, hci, hdi⟩ := id hit
  obtain ⟨ol, hol, _, nl, hdl⟩ := hls
  unfold pyNext
  refine wpAny_bind (wpAny_attempt (wpAny_callSpecial?_slot (name := Str.ofString "__next__") hit.typeIs PySem.slot_listiter_next
    (wpAny_call_entry PySem.slot_listiter_next hit.typeIs PySem.entry_listiter_next ?_ (PySem.args_listiter_next _))))
  show wpAny _ _ (field (.ref it) 0 >>= _) _ _ s
  refine wpAny_bind (wpAny_field hoi hdi (x := .ref l) rfl ?_)
  show wpAny _ _ (if (Value.ref l == Value.none) = true then _ else _) _ _ s
  rw [if_neg (show ¬ ((Value.ref l == Value.none) = true) from Bool.false_ne_true)]
  show wpAny _ _ (field (.ref it) 1 >>= _) _ _ s
  refine wpAny_bind (wpAny_field hoi hdi (x := .int i 0) rfl ?_)
  show wpAny _ _ (seqItems? (.ref l) >>= _) _ _ s
  refine wpAny_bind (wpAny_seqItems hol hdl ?_)
  simp only [Int.toNat_natCast, hx]
  refine wpAny_bind (wpAny_rule (wpAny_bind (wpAny_setField hoi hdi (by simp) ?_)))
  show wpAny _ _ (newExc (.type "StopIteration") [] >>= _) _ _ _
  refine wpAny_bind ?_
  simp only [newExc, newTuple]
  refine wpAny_bind (wpAny_newObj_type ?_ (by size_fits))
  refine wpAny_bind (m := firstArgMember _ _) (wpAny_of_eq (a := Value.none) (by first | rfl | (simp only [firstArgMember]; rfl)) ?_)
  refine wpAny_newObj_type ?_ (by size_fits)
  have gU : (s.heap.update it (Obj.mapFields (·.setIfInBounds 0 Value.none))).get? x1 = some o1 := (Heap.get?_update_other _ _ (Ne.symm hne)).trans g1
  refine raiseNew_hot ⟨hh, o1, vs1, Heap.get?_push_of_some _ (Heap.get?_push_of_some _ gU), d1, c1⟩ (Nat.ne_of_lt (Heap.lt_size (Heap.get?_push_of_some _ gU))) (Heap.get?_push_size _ rfl) rfl (by first | (simp; done) | (simp; omega) | (simp only [Array.size_append]; simp; omega)) ?_
  refine wpAny_bind (wpAny_isInstance (T := "StopIteration") (b := true) ⟨_, Heap.get?_update_self _ (Heap.get?_push_size _ rfl) rfl, rfl⟩ PySem.isSubtype_stop ?_)
  refine wpAny_pure (hQ _ fun b o hb e => ?_)
  have gb : (s.heap.update it (Obj.mapFields (·.setIfInBounds 0 Value.none))).get? b = some o := (Heap.get?_update_other _ _ (Ne.symm hb)).trans e
  rw [Heap.get?_update_other _ _ (Nat.ne_of_gt (Heap.lt_size (Heap.get?_push_of_some _ gb)))]
  exact Heap.get?_push_of_some _ (Heap.get?_push_of_some _ gb)
theorem walks_hot {x1 : Addr} {o1 : Obj} {vs1 : Array Value} (hh : A.handled = some (.ref x1)) (d1 : o1.data = .fields vs1) (c1 : vs1[2]? = some .none) (I ax : Addr) (hne : ax ≠ I) (hnx : x1 ≠ I) (its : Array Value) :
    Walks prog w A I [I, ax, x1] [I] its.size (fun i v => its[i]? = some v) (fun i h => h.IsListIter I ax i ∧ h.IsList ax its ∧ h.get? x1 = some o1) where
  sub := fun b hb => by simp at hb; simp [hb]
  frame := fun _ _ _ st hk => ⟨st.1.at fun o e => hk I (by simp) o e, st.2.1.at fun o e => hk ax (by simp) o e, hk x1 (by simp) _ st.2.2⟩
  item := fun i s Q E hi st hQ => by
    refine wpAny_pyNext_list_item st.1 st.2.1 (x := its[i]) (by simp [hi]) fun h' hit' hs' => ?_
    exact hQ _ h' s.toks (by simp [hi]) ⟨hit', st.2.1.extBut hs'.extBut hne, hs'.extBut x1 o1 hnx st.2.2⟩ fun b o hb e => hs'.extBut b o (fun h => hb (by simp [h])) e
  done := fun s Q E st hQ => next_list_hot ⟨hh, o1, vs1, st.2.2, d1, c1⟩ hnx st.1 st.2.1 (by simp) fun h' he' => hQ h' s.toks fun b o hb e => he' b o (fun h => hb (by simp [h])) e
  self := fun _ _ _ _ st hQ => wpAny_pyIter_listiter st.1 hQ
end
/-- all(xs) of a list of bools, there -/
theorem cr_allH {X : Cx} (hc : HotC X) : CallR X (.builtin "all") (rAll X.K) := by
  intro pins s σ H vs us Q J r h
  obtain ⟨a, bs, rfl, hs, q⟩ := h
  obtain ⟨its, rv, hl, _⟩ := J.list hs
  obtain ⟨p, ⟨hh, v1, e1, c1⟩, hp⟩ := hc
  have gp := (J.pin p (List.mem_append_left _ hp)).1
  rw [Vals.ref1 r]
  have hb := rv.bls
  refine call_all_walk (iter_any hl.isList fun s2 e2 st hne => ?_)
  subst e2
  refine ⟨_, _, _, _, _, _, _, rfl, walks_hot (A := X.A.in1) hh e1 c1 _ a hne (Nat.ne_of_lt (Heap.lt_size gp)) its.toArray, ⟨st.1, st.2, Heap.get?_push_of_some _ gp⟩, truth_bools hb, fun h' tk hk => ?_⟩
  refine ⟨.bl _, H, J.kept fun b o eo => hk b o (fun hm => ?_) (Heap.get?_push_of_some _ eo), ?_, q⟩
  · rcases List.mem_cons.mp hm with e3 | hm
    · exact absurd (e3 ▸ Heap.lt_size eo) (Nat.lt_irrefl _)
    · cases hm
  · show Value.bool _ = Value.bool _
    rw [← L2.all_range, hb, List.size_toArray, List.length_map]
/-! ### comprehensions there -/
/-- a comprehension's block: the exception stays pinned -/
abbrev blkH (X : Cx) (s : Shared) (H : Hp) (scope : Scope) (cenv : Env) (fp : List Addr) : Cx := { X.blk s H scope cenv fp with pn := X.pn }
theorem HotC.blk {X : Cx} {s : Shared} {H : Hp} {scope : Scope} {cenv : Env} {fp : List Addr} (h : HotC X) : HotC (blkH X s H scope cenv fp) := h
section
variable {X : Cx} {pins : List (Addr × Obj)} {σ : L2.St} {H : Hp} {s : Shared}
theorem blkH_of {cenv : Env} {scope : Scope} {fp : List Addr} {s0 : Shared} {H0 : Hp} (B : Inv (X.blk s0 H0 scope cenv fp) [] σ H s) (hp : ∀ p ∈ X.pn, s.heap.get? p.1 = some p.2 ∧ H p.1 = none ∧ p.1 ≠ cenv.locals ∧ p.1 ∉ frs X.stack ∧ ∀ v, p.2.data ≠ .cell v) : Inv (blkH X s0 H0 scope cenv fp) [] σ H s :=
  ⟨⟨B.ok.mod, B.ok.kind, B.ok.glob, B.ok.blt, B.ok.above, B.ok.inj, B.ok.has, B.ok.cab, B.ok.hd, B.ok.frames, B.ok.stk, B.ok.exf, B.ok.bs, B.ok.bsz, B.ok.noex, B.ok.exfs, B.ok.funs, B.ok.frf⟩, B.os, B.bare, B.base, B.loc, B.cell, B.free, B.freeC,
    fun p hm => (List.mem_append.mp hm).elim (hp p) (fun z => nomatch z), B.hok, B.len⟩
theorem start_blkH {scope : Scope} {own : List (Str × Nat)} {fp : List Addr} (J : Inv X pins σ H s) (ok : BlkOk X.N X.env.scope scope own) (hN : X.N.Nodup) (hfp : ∀ b ∈ fp, FpOk X pins H b ∧ b < s.heap.objs.size) :
    Inv (blkH X s H scope (compEnvC scope (cellsFrom (s.heap.objs.size + 1) scope.names (cloFrom X.env.cells scope.names [])) s.heap.objs.size X.env) fp) [] (L2.wipe σ (own.map (·.2))) H { s with heap := pushCells (s.heap.push { cls := .type "dict", data := .dict #[] }) scope.names } := by
  refine blkH_of (block_start J ok hN hfp) fun p hp => ?_
  obtain ⟨g1, g2, g3, g4, g5⟩ := J.pin p (List.mem_append_left _ hp)
  exact ⟨pushCells_keeps _ _ _ _ (Heap.get?_push_of_some _ g1), g2, fun z => absurd (Heap.lt_size g1) (by rw [z]; exact Nat.lt_irrefl _), fun hm => (List.mem_cons.mp (J.stkSub p.1 hm)).elim g3 g4, g5⟩
theorem lc_hot {Q : VK} {elt tg iter : Expr} {ifs : List Expr} {scope : Scope} {own : List (Str × Nat)} {pos pos' : Pos} {wi : TI} {g : TG} {tt : TT} {te : TE} {use : Option (Value → Sem Unit)} {Qf : Value → Shared → Prop}
    (hc : HotC X) (hN : X.N.Nodup) (J0 : Inv X pins σ H s) (hi : PIH X tg iter wi) (ok : BlkOk X.N X.env.scope scope own)
    (hg : ∀ (s : Shared) (H : Hp) (C : Addr) (cl : List (Str × Addr)) (fp : List Addr), PG (blkH X s H scope (compEnvC scope cl C X.env) fp) tg g) (ht : ∀ (s : Shared) (H : Hp) (C : Addr) (cl : List (Str × Addr)) (fp : List Addr), PTs (blkH X s H scope (compEnvC scope cl C X.env) fp) ifs tt)
    (he : ∀ (s : Shared) (H : Hp) (C : Addr) (cl : List (Str × Addr)) (fp : List Addr), PE (blkH X s H scope (compEnvC scope cl C X.env) fp) elt te) (hs : ∀ x, foldedSetIterable iter X.env x = pure x)
    (h : tLc wi g tt te (own.map (·.2)) σ H Q)
    (hRR : ∀ D C s' m H', Inv X pins σ H' s' → Q (.ref D) H' → s'.heap.Ns C m → FpOk X pins H' C → compPost (model X.prog X.w) X.A X.xe use Qf (.ref D) C (.ok .next) s') :
    wpAny (model X.prog X.w) X.A (comprehension (.ListComp elt [⟨tg, iter, ifs, 0⟩] scope pos) scope X.env pos' (newList []) false (eval iter X.env) use) Qf X.xe s := by
  have frees : ∀ y ∈ scope.names, y.2 = .free → ∃ c, X.env.cells.lookup y.1 = some c := by
    intro y hy e
    rcases ok.free y hy e with k | k
    · exact J0.ok.has _ (.inl k)
    · exact J0.ok.has _ (.inr k)
  refine wpAny_comprehension_free (use := use) rfl hs (closure_ok frees) ok.kind (fun y hy e => by rw [ok.uniq y hy, e]) (thn (hi.run pins s σ H _ J0 h) fun xv s1 hx => thn hx fun itv s2 h2 => ?_)
  obtain ⟨it, fp, tn, Ji, H2, e, J2, T, st2, f2, q⟩ := h2
  subst e
  refine wpAny_newObj_type (newEnv_comp ?_) (by show 0 ≤ sizeLine; decide)
  generalize hD : s2.heap.objs.size = D
  have freeD : H2 D = none := J2.hok.fresh (Nat.le_of_eq hD)
  obtain ⟨W, ⟨m0, w0⟩, turn⟩ := q D freeD
  generalize hs3 : ({ s2 with heap := s2.heap.push { cls := .type "list", data := .seq ([] : List Value).toArray } } : Shared) = s3
  have J3 : Inv X pins σ (upd H2 D (.lst [])) s3 := by
    rw [← hs3]
    refine J2.laid (t' := s2.toks) (fun b o z => Heap.get?_push_of_some _ z) (Nat.le_of_eq hD) ⟨Nat.zero_le _, [], 0, .nil, ?_⟩
    rw [← hD]
    exact Heap.get?_push_size _ rfl
  have heap3 : s3.heap = s2.heap.push { cls := .type "list", data := .seq ([] : List Value).toArray } := by rw [← hs3]
  have below : ∀ b ∈ fp, b < s2.heap.objs.size := by
    intro b hb
    obtain ⟨o, z, _⟩ := T.obj _ _ st2 b hb
    exact Heap.lt_size z
  have f3 : ∀ b ∈ fp, FpOk X pins (upd H2 D (.lst [])) b ∧ b < s3.heap.objs.size := by
    intro b hb
    have hlt := below b hb
    refine ⟨⟨?_, (f2 b hb).2⟩, by rw [heap3, Heap.size_push]; exact Nat.lt_succ_of_lt hlt⟩
    rw [upd_ne (by rw [← hD]; exact Nat.ne_of_lt hlt)]
    exact (f2 b hb).1
  have st3 : tn 0 s3.heap := T.keep _ _ _ st2 fun b _ o z => by rw [heap3]; exact Heap.get?_push_of_some _ z
  have J4 := start_blkH J3 ok hN f3
  have pg := hg s3 (upd H2 D (.lst [])) s3.heap.objs.size (cellsFrom (s3.heap.objs.size + 1) scope.names (cloFrom X.env.cells scope.names [])) fp
  have pt := ht s3 (upd H2 D (.lst [])) s3.heap.objs.size (cellsFrom (s3.heap.objs.size + 1) scope.names (cloFrom X.env.cells scope.names [])) fp
  have pe := he s3 (upd H2 D (.lst [])) s3.heap.objs.size (cellsFrom (s3.heap.objs.size + 1) scope.names (cloFrom X.env.cells scope.names [])) fp
  show codeAny _ _ (.compStart (.ListComp elt [⟨tg, iter, ifs, 0⟩] scope pos) 0 (.ref it) (.ref D) (compEnvC scope (cellsFrom (s3.heap.objs.size + 1) scope.names (cloFrom X.env.cells scope.names [])) s3.heap.objs.size X.env)) (compPost (model X.prog X.w) X.A X.xe use Qf (.ref D) s3.heap.objs.size) { s3 with heap := pushCells (s3.heap.push { cls := .type "dict", data := .dict #[] }) scope.names }
  have none3 : ∀ b ∈ fp, (upd H2 D (.lst [])) b = none := fun b hb => (f3 b hb).1.1
  generalize hce : compEnvC scope (cellsFrom (s3.heap.objs.size + 1) scope.names (cloFrom X.env.cells scope.names [])) s3.heap.objs.size X.env = ce at J4 pg pt pe ⊢
  have cL : ce.locals = s3.heap.objs.size := by subst hce; rfl
  generalize hH3 : upd H2 D (.lst []) = H3 at J3 J4 pg pt pe w0 none3 f3
  generalize hs4 : ({ s3 with heap := pushCells (s3.heap.push { cls := .type "dict", data := .dict #[] }) scope.names } : Shared) = s4 at J4 ⊢
  have st4 : tn 0 s4.heap := T.keep _ _ _ st3 fun b _ o z => by rw [← hs4]; exact pushCells_keeps _ _ _ _ (Heap.get?_push_of_some _ z)
  have hcB : HotC (blkH X s3 H3 scope ce fp) := hc
  have stat : ∀ {σ' : L2.St} {H' : Hp} {s' : Shared}, Inv (blkH X s3 H3 scope ce fp) [] σ' H' s' → (∀ b ∈ fp, H' b = none) → ∀ b ∈ fp, FpOk (blkH X s3 H3 scope ce fp) [] H' b := by
    intro σ' H' s' I' hn b hb
    refine ⟨hn b hb, (I'.ok.exf b hb).1, I'.ok.exfs b hb, .inl hb, fun x c z => (I'.ok.exf b hb).2 x c z, fun p hp => ?_⟩
    have hp : p ∈ X.pn := (List.mem_append.mp hp).elim id fun z => nomatch z
    exact (f3 b hb).1.2.2.2.2.2 p (List.mem_append_left _ hp)
  have loop : codeAny (model X.prog X.w) X.A (.compLoop (.ListComp elt [⟨tg, iter, ifs, 0⟩] scope pos) 0 (.ref it) (.ref D) ce) (compPost (model X.prog X.w) X.A X.xe use Qf (.ref D) s3.heap.objs.size) s4 := by
    refine compLoop_any (fun n s' => ∃ i H', Inv (blkH X s3 H3 scope ce fp) [] (L2.wipe σ (own.map (·.2))) H' s' ∧ tn i s'.heap ∧ (∀ b ∈ fp, H' b = none) ∧ W i n H') ?_ m0 ⟨0, H3, J4, st4, none3, w0⟩
    rintro n s5 ⟨i, H5, J5, st5, n5, w5⟩
    rcases turn i n H5 w5 with ⟨stop, qq⟩ | ⟨go, Nx, hNx, step⟩
    · have td := T.done (blkH X s3 H3 scope ce fp) rfl rfl rfl hcB i [] s5 _ H5 (fun _ _ => False) J5 (stat J5 n5) st5 stop
      refine thnF td fun r s6 ⟨hr, J6⟩ => ?_
      subst hr
      have J7 : Inv X pins σ H5 s6 := J3.call' (ch := fp) J6.os J6.base J6.hok J6.bare fun b hb => ⟨(f3 b hb).1.2.2.2.1, (f3 b hb).1.2.1, (f3 b hb).1.2.2.2.2.1, (f3 b hb).1.2.2.2.2.2⟩
      have nC : H5 s3.heap.objs.size = none := by
        have z : H5 ce.locals = none := J6.free
        rw [cL] at z
        exact z
      obtain ⟨m, hn, _⟩ := J6.loc
      have hn : s6.heap.Ns ce.locals m := hn
      rw [cL] at hn
      exact hRR D s3.heap.objs.size s6 m H5 J7 qq hn (J3.fpOk (Nat.le_refl _) nC)
    · have ti := T.item (blkH X s3 H3 scope ce fp) rfl rfl rfl hcB i [] s5 _ H5 (fun _ _ => False) J5 (stat J5 n5) st5 go
      refine thnF ti fun r s6 ⟨u, hr, h6⟩ => ?_
      subst hr
      refine thnF h6 fun _ s7 ⟨x, H7, J7, r7, y7, st7, n7⟩ => ?_
      have J7' := J7.pinned (stat J7 n7) (T.obj _ _ st7)
      refine thnF (pg.run _ s7 _ H7 x u _ J7' r7 (step x H7 y7)) fun _ s8 ⟨σ8, H8, J8, hw8, q8⟩ => ?_
      refine thnF (pt.run _ s8 σ8 H8 _ J8 q8) fun b s9 ⟨H9, J9, q9⟩ => ?_
      have last : ∀ {s' : Shared} {H' : Hp}, Inv (blkH X s3 H3 scope ce fp) ([] ++ pinsAt fp s7.heap) σ8 H' s' → Nx H' → ∃ m, m < n ∧ ∃ i H', Inv (blkH X s3 H3 scope ce fp) [] (L2.wipe σ (own.map (·.2))) H' s' ∧ tn i s'.heap ∧ (∀ b ∈ fp, H' b = none) ∧ W i m H' := by
        intro s' H' I' nx
        obtain ⟨m', hm, w'⟩ := hNx H' nx
        have pin' : ∀ b ∈ fp, ∀ o, s7.heap.get? b = some o → s'.heap.get? b = some o ∧ H' b = none := by
          intro b hb o z
          have y := I'.pin (b, o) (List.mem_append_right _ (List.mem_append_right _ (mem_pinsAt hb z)))
          exact ⟨y.1, y.2.1⟩
        have hl : (L2.wipe σ (own.map (·.2))).length = σ8.length := by rw [← hw8, wipe_length]
        refine ⟨m', hm, i + 1, H', (I'.unpinned (pins := [])).weak hl (fun j v z => ?_), T.keep _ _ _ st7 fun b hb o z => (pin' b hb o z).1, fun b hb => ?_, w'⟩
        · rw [← hw8] at z
          exact (wipe_some z).1
        · obtain ⟨o, z, _⟩ := T.obj _ _ st7 b hb
          exact (pin' b hb o z).2
      cases b with
      | true =>
        simp only [if_true] at q9 ⊢
        refine thnF (pe.run _ s9 σ8 H9 _ J9 q9) fun z s10 ⟨yv, H10, J10, r10, acc, hD10, hz10, nx⟩ => ?_
        exact app_ok (X := blkH X s3 H3 scope ce fp) J10 hD10 hz10 r10 fun s11 J11 => last J11 nx
      | false =>
        simp only [Bool.false_eq_true, if_false] at q9 ⊢
        exact last J9 q9
  exact codeAny_compStart_list loop (T.self X.A 0 _ _ _ st4 loop)
theorem pe_lcH {elt tg iter : Expr} {ifs : List Expr} {scope : Scope} {own : List (Str × Nat)} {pos : Pos} {wi : TI} {g : TG} {tt : TT} {te : TE} (hc : HotC X) (hN : X.N.Nodup) (hi : PIH X tg iter wi) (ok : BlkOk X.N X.env.scope scope own)
    (hg : ∀ (s : Shared) (H : Hp) (C : Addr) (cl : List (Str × Addr)) (fp : List Addr), PG (blkH X s H scope (compEnvC scope cl C X.env) fp) tg g) (ht : ∀ (s : Shared) (H : Hp) (C : Addr) (cl : List (Str × Addr)) (fp : List Addr), PTs (blkH X s H scope (compEnvC scope cl C X.env) fp) ifs tt)
    (he : ∀ (s : Shared) (H : Hp) (C : Addr) (cl : List (Str × Addr)) (fp : List Addr), PE (blkH X s H scope (compEnvC scope cl C X.env) fp) elt te) (hs : ∀ x, foldedSetIterable iter X.env x = pure x) :
    PE X (.ListComp elt [⟨tg, iter, ifs, 0⟩] scope pos) (tLc wi g tt te (own.map (·.2))) := by
  refine ⟨fun pins s σ H Q J h => ?_⟩
  rw [eval_ListComp]
  refine lc_hot hc hN J hi ok hg ht he hs h fun D C s' m H' J' q hn f => ⟨m, hn, fun h'' sb => ?_⟩
  obtain ⟨f0, f1, f2, f3, f4, f5⟩ := f
  exact ⟨.ref D, H', J'.turned (t' := s'.toks) (fun b o hb z => (sb.2 b hb).trans z) f0 f1 f3 f4 f5, rfl, q⟩
end
end WL
/-! Defs that are called within an except suite, comprehensions there: over plain data. -/
namespace WL
open PySem PySem.Spec PyProof.Rows L2 L2H HotX
/-! ### what such a def promises; p: the exception that is handled -/
structure FnP (P : Program) (w : World) (K : PySem.W.Frag) (mg : Str → Option Value) (base : Heap) (C : CXT) (p : Addr × Obj) (k : Nat) (f : Addr) (fd : FuncData) (ps : List Str) (sp : Sp) : Prop where
  len : ∀ xs M R E, sp xs M R E → xs.length = ps.length
  run : ∀ (B : Around) (out : List Env) (sh : Shared) (M : Hp) (ar : Args) (us : List Value) (xs : List V) (R : VK) (E : XK), RoomH k B → Hot1 B p → PinOk out M sh p → Env0 P w K mg base B out sh M → BindsTo sh fd ar (ps.zip us) → Vals xs us → sp xs M R E →
    codeAny (model P w) B (.call (.ref f) ar) (CR C out P w M sh R E) sh
section
variable {P : Program} {w : World} {K : PySem.W.Frag} {mg : Str → Option Value} {base : Heap} {p : Addr × Obj}
theorem fn_okP {x qual : Str} {st : Stmt} {f : Addr} {fd : FuncData} {N ps : List Str} {k : Nat} {sp : Sp} (Fu : Fun K x qual st f fd) (S : FnScope N ps (defScope st)) (hl : ∀ xs M R E, sp xs M R E → xs.length = ps.length)
    (hbd : ∀ (cdv : Value) (B : Around) (out : List Env) (sh : Shared) (M : Hp) (xs : List V) (R : VK) (E : XK), Hot1 B p → RoomH k (B.deeper (envOfC qual (defScope st) sh.heap.objs.size f cdv)) → sp xs M R E →
      ∃ t, PSs (cxH (L2.CX P w) P w K mg base N qual (defScope st) f cdv B out sh M E p) (defBody st) t ∧ t { nx := fun _ M' => R .non M', rt := R } (L2.start N xs) M) :
    FnP P w K mg base (L2.CX P w) p (k + 1) f fd ps sp := by
  obtain ⟨oc, od, kV, doc, pm, an, cdv, ct, osl, rfl, hlk, hcode⟩ := Fu.ex
  refine ⟨hl, fun B out sh M ar us xs R E room hot pin env0 bnd rel want => ?_⟩
  have hlen := hl _ _ _ _ want
  have kin : K.In sh.heap := env0.mod.kin.keeps fun b o z => (env0.bs b o z).1
  have nolim : sh.heap.NoLimit := env0.mod.nolimit.keeps fun b o z => (env0.bs b o z).1
  have kinds : ∀ y ∈ ps.zip us, (defScope st).names.lookup y.1 = some .local ∨ ((defScope st).names.lookup y.1 = some .cell ∧ ((cellsFrom (sh.heap.objs.size + 1) (defScope st).names []).lookup y.1).isSome = true) := by
    rintro ⟨n, v⟩ hy
    rcases S.par n (List.of_mem_zip hy).1 with q | q
    · exact .inl q
    · exact .inr ⟨q, PySem.W.cellsFrom_some _ _ _ (.inl q)⟩
  refine codeAny_call_function room.depth (kin _ _ hlk) rfl S.co S.gen rfl (PySem.W.codeRec_of kin hcode) (bnd _ _ _ _ ?_)
  refine wpAny_newFunctionEnv_cells S.kind kinds fun env he sh1 inn => ?_
  subst he
  refine ⟨nolim.keeps inn.toInCall.keep, codeAny_func ?_⟩
  obtain ⟨t, ht, hq⟩ := hbd cdv B out sh M xs R E hot (room.deeper _) want
  have J0 : Inv (cxH (L2.CX P w) P w K mg base N qual (defScope st) f cdv B out sh M E p) [] (L2.start N xs) M sh1 := inv_startH S pin env0 hlen rel inn
  refine wpAny_mono (ht.run [] sh1 (L2.start N xs) M _ J0 hq) (fun fl sh2 hs => ?_) fun _ _ z => z
  have last : ∀ {σ' : L2.St} {M' : Hp} {v : V} {u : Value}, Inv (cxH (L2.CX P w) P w K mg base N qual (defScope st) f cdv B out sh M E p) [] σ' M' sh2 → RelV v u → R v M' → CE out P w M sh R u sh2 :=
    fun {_ M' v _} J rv q => ⟨v, M', J.os, J.bare, J.base, J.hok, rv, q⟩
  cases fl with
  | next =>
    obtain ⟨_, _, J, q⟩ := hs
    exact last (v := V.non) (u := Value.none) J rfl q
  | ret u =>
    obtain ⟨v, _, _, J, rv, q⟩ := hs
    exact last J rv q
  | cont => obtain ⟨_, _, _, q⟩ := hs; exact q.elim
  | brk => obtain ⟨_, _, _, q⟩ := hs; exact q.elim
end
/-- such a def's body: the context -/
def cyP (P : Program) (w : World) (K : PySem.W.Frag) (mg : Str → Option Value) (base : Heap) (N : List Str) (qual : Str) (scope : Scope) (f : Addr) (cd : Value) (A : Around) (outer : List Env) (s : Shared) (H : Hp) (E : XK) (p : Addr × Obj) : Cy where
  X := cxH (L2.CX P w) P w K mg base N qual scope f cd A outer s H E p
  Wx := fun _ _ _ _ => False
  tk := L2.takes0
  po := passes_of rfl
  Qx := fun _ _ _ => False
section
variable {P : Program} {w : World} {K : PySem.W.Frag} {mg : Str → Option Value} {base : Heap} {p : Addr × Obj}
/-- THE RULE of such a def -/
theorem fn_wP {x qual : Str} {st : Stmt} {f : Addr} {fd : FuncData} {N ps : List Str} {k : Nat} {F : FSp} (Fu : Fun K x qual st f fd) (S : FnScope N ps (defScope st)) (hl : ∀ ws c Q E, F ws c Q E → ws.length = ps.length)
    (body : ∀ (cdv : Value) (A : Around) (outer : List Env) (s : Shared) (H : Hp) (E : XK) (ws : List W) (c : List Cell) (Q : KQ) (Qx : Exn → List Cell → Prop), Hot1 (A.deeper (envOfC qual (defScope st) s.heap.objs.size f cdv)) p → RoomH k (A.deeper (envOfC qual (defScope st) s.heap.objs.size f cdv)) → F ws c Q Qx →
      WSs (cyP P w K mg base N qual (defScope st) f cdv A outer s H E p) c.length (ws.map some ++ List.replicate (N.length - ws.length) none) c (defBody st) { nx := fun _ c' => RtOk c.length Q (.im .non) c', rt := RtOk c.length Q }) :
    FnP P w K mg base (L2.CX P w) p (k + 1) f fd ps (spOf K F) := by
  refine fn_okP Fu S (fun vs H Q E h => ?_) (fun cdv A outer s H vs Q E hot hr h => ?_)
  · obtain ⟨κ, ws, _, _, r, Qw, Qx, hF, _⟩ := h
    rw [r.len]; exact hl _ _ _ _ hF
  · obtain ⟨κ, ws, rfl, o, r, Qw, Qx, hF, kq, kx⟩ := h
    have hb := body cdv A outer s κ.H E ws κ.c Qw Qx ⟨hot.1, hot.2⟩ hr hF
    have hn : κ.th.length = κ.c.length := o.len
    refine ⟨wSs (cyP P w K mg base N qual (defScope st) f cdv A outer s κ.H E p).X (defBody st), pss_w, ?_⟩
    refine hb κ κ (L2.start N vs) hn (.refl _) rfl o (start_env r) _ ⟨fun σ' κ' ρ' l' o' r' q => ?_, fun v w' κ' l' o' rw' q => ?_, fun _ _ _ _ _ _ q => q.elim, fun _ _ _ _ _ _ q => q.elim, fun _ _ _ _ _ _ _ _ _ _ q => q.elim⟩
    · rw [← hn] at q
      exact RtOk.fin (Q' := Q) l' o' (show RW K κ'.I κ'.th (.im .non) .non from rfl) q kq
    · rw [← hn] at q
      exact RtOk.fin (Q' := Q) l' o' rw' q kq
structure HasFnP (P : Program) (w : World) (K : PySem.W.Frag) (mg : Str → Option Value) (base : Heap) (p : Addr × Obj) (k : Nat) (x : Str) (ps : List Str) (F : FSp) : Prop where
  ex : ∃ (f : Addr) (fd : FuncData), mg x = some (.ref f) ∧ PySem.W.keepIn K (.ref f) = true ∧ FnP P w K mg base (L2.CX P w) p k f fd ps (spOf K F) ∧ Binds K fd ps []
end
section
variable {X : Cx} {C : CXT} {k : Nat} {f : Addr} {fd : FuncData} {ps : List Str} {sp : Sp} {E : L2.St → XK} {x : Str} {q0 pos : Pos} {e : Expr} {es : List Expr} {t : TA} {p : Addr × Obj}
theorem pe_callP (F : FnP X.prog X.w X.K X.mg X.base C p k f fd ps sp) (room : RoomH k X.A) (hot : Hot1 X.A p) (hp : p ∈ X.pn) (gl : Gl X x) (hmg : X.mg x = some (.ref f)) (kp : PySem.W.keepIn X.K (.ref f) = true) (bn : Binds X.K fd ps []) (pas : ∀ σ, PassesAt C X σ (E σ))
    (pa : PA X (e :: es) t) (hdb : (x == ("__debug__" : Str)) = false) (he : starEach (e :: es) X.env = (false, eval e X.env) :: starEach es X.env) (hpl : (backTo pos (starEach es X.env)).any (·.1) = false) :
    PE X (.Call (.Name x q0) (e :: es) [] pos) (fun σ H Q => t σ H fun vs H1 => sp vs H1 Q (E σ)) := by
  refine ⟨fun pins sh σ M Q J h => wpAny_Call_Name_kw (ld_glob J gl hmg ?_ hdb)⟩
  refine PySem.W.callWith_K (h₀ := X.base) J.ok.mod.kin kp (thn (pa.run pos pins sh σ M _ J h) fun us sh1 ⟨xs, M1, J1, rel, want⟩ => ⟨J1.kIn, ?_⟩) he hpl
  have hlen : us.length = ps.length := by rw [← rel.length]; exact F.len _ _ _ _ want
  have bind2 := bn sh1 us J1.kIn (by simpa using hlen)
  rw [List.append_nil] at bind2
  obtain ⟨g1, g2, g3, g4, g5⟩ := J1.pin p (List.mem_append_left _ hp)
  have pin : PinOk X.stack M1 sh1 p := ⟨g1, g2, fun hm => (List.mem_cons.mp (J1.stkSub p.1 hm)).elim g3 g4, g5⟩
  refine wpAny_call (codeAny_mono (F.run X.A X.stack sh1 M1 ⟨us, []⟩ us xs Q (E σ) room hot pin J1.env0 bind2 rel want) fun r sh2 hq => ?_)
  cases r with
  | ok fl =>
    cases fl with
    | next => exact hq.elim
    | ret u => exact J1.after hq
    | cont => exact hq.elim
    | brk => exact hq.elim
  | error z => exact pas σ pins M1 sh1 z sh2 J1 hq
end
section
variable {Y : Cy} {ρ : Ρ} {c : List Cell} {Q : KQ} {P : Program} {w : World} {K : PySem.W.Frag} {mg : Str → Option Value} {base : Heap} {p : Addr × Obj}
theorem we_callP {k : Nat} {x : Str} {ps : List Str} {F : FSp} {q0 pos : Pos} {e : Expr} {es : List Expr} (hf : HasFnP P w K mg base p k x ps F) (hY : CyIs Y P w K mg base) (hr : RoomH k Y.X.A) (hot : Hot1 Y.X.A p) (hp : p ∈ Y.X.pn) (hg : Gl Y.X x)
    (hdb : (x == ("__debug__" : Str)) = false) (he : starEach (e :: es) Y.X.env = (false, eval e Y.X.env) :: starEach es Y.X.env) (hpl : (backTo pos (starEach es Y.X.env)).any (·.1) = false)
    (h : WA Y ρ c (e :: es) fun ws c1 => F ws c1 Q fun _ _ => False) :
    WE Y ρ c (.Call (.Name x q0) (e :: es) [] pos) Q := by
  obtain ⟨rfl, rfl, rfl, rfl, rfl⟩ := hY
  intro κ σ hc o r g Q' G
  obtain ⟨f, fd, hm, hk, hF, hb⟩ := hf.ex
  refine PE.w (pe_callP hF hr hot hp hg hm hk hb (E := fun _ => E0) (fun σ pins M sh z t J h => passL pins σ M sh z t J h) pa_w hdb he hpl) (h.bind hc o r g fun vs ws κ1 l1 o1 r1 g1 rws q => ?_)
  exact ⟨κ1, ws, rfl, o1, rws, Q, fun _ _ => False, q, GoV.le G l1, fun _ _ _ _ _ _ _ z => z.elim⟩
end
/-! ### comprehensions there -/
def Cy.blkH (Y : Cy) (scope : Scope) (b : Blk) : Cy where
  X := WL.blkH Y.X b.s b.H scope (compEnvC scope b.cl b.C Y.X.env) b.fp
  Wx := fun _ _ _ _ => False
  tk := L2.takes0
  po := PassesOwn.never
  Qx := fun _ _ _ => False
def wIH (X : Cx) (tg iter : Expr) : TI := fun σ H R => ∀ (pins : List (Addr × Obj)) (s : Shared), Inv X pins σ H s →
    wpAny (model X.prog X.w) X.A (eval iter X.env) (fun v s1 => wpAny (model X.prog X.w) X.A (pyIter v) (PIEH X pins σ tg R) X.xe s1) X.xe s
theorem pih_w {X : Cx} {tg iter : Expr} : PIH X tg iter (wIH X tg iter) := ⟨fun pins s σ H R I h => h pins s I⟩
theorem PIH.w {X : Cx} {tg iter : Expr} {wi : TI} {σ : L2.St} {H : Hp} {R : It → Hp → Prop} (h : PIH X tg iter wi) (q : wi σ H R) : wIH X tg iter σ H R := fun pins s I => h.run pins s σ H R I q
def WIH (Y : Cy) (ρ : Ρ) (c : List Cell) (tg iter : Expr) (Q : List D → List Cell → Prop) : Prop :=
  ∀ κ σ, κ.c = c → κ.Ok Y.X.K → REnv Y.X.K κ σ ρ → GoX Y κ σ ρ → ∀ Q' : It → Hp → Prop, (∀ J ds κ1, κ.le κ1 → κ1.Ok Y.X.K → ItOk Y.X.K J ds κ1 → Q ds κ1.c → Q' J κ1.H) → wIH Y.X tg iter σ κ.H Q'
section
variable {Y : Cy} {ρ : Ρ} {c : List Cell} {Q : KQ}
theorem wi_rangeH {tg a : Expr} {p pos : Pos} {Q : List D → List Cell → Prop} (hg : Gl Y.X "range") (hm : Y.X.mg "range" = none) (hs : starEach [a] Y.X.env = [(false, eval a Y.X.env)]) (h : WE Y ρ c a fun w c1 => ∃ j : Int, w = .im (.int j) ∧ -(2 ^ 62) ≤ j ∧ j < 2 ^ 62 ∧ Q (rangeD 0 j.toNat) c1) :
    WIH Y ρ c tg (.Call (.Name "range" p) [a] [] pos) Q := fun κ σ hc o r g Q' G =>
  PIH.w (pi_range1H hg hm (pa_cons pe_w pa_nil hs) hs) (h.bind hc o r g fun v w κ1 l1 o1 r1 g1 rw1 ⟨j, e, b1, b2, q⟩ => by
    subst e
    exact ⟨j, by rw [show v = .int j from rw1], b1, b2, G _ _ κ1 l1 o1 (itok_range 0 _) q⟩)
theorem GoX.blkH {scope : Scope} {b : Blk} {κ : Wd} {σ : L2.St} {ρ : Ρ} : GoX (Y.blkH scope b) κ σ ρ := ⟨fun _ _ _ _ _ _ _ q => q.elim⟩
def LcAskH (Y : Cy) (ρ : Ρ) (scope : Scope) (vs : List Nat) (t : Tgt) (elt : Expr) (Q : List D → List Cell → Prop) (ds : List D) (c1 : List Cell) : Prop :=
  ∃ P : Nat → List D → List Cell → Prop, P 0 [] c1 ∧
    (∀ i d acc c', ds[i]? = some d → P i acc c' → acc.length < 1000000 ∧ t.fits d ∧ ∀ b : Blk, WE (Y.blkH scope b) (t.bind (wipeW ρ vs) d) c' elt fun w c3 => ∃ e, w = .im e ∧ P (i + 1) (acc ++ [e]) c3) ∧
    ∀ acc c', P ds.length acc c' → Q acc c'
theorem lc_semH {elt tg iter : Expr} {scope : Scope} {vs : List Nat} {t : Tgt} {QL : List D → List Cell → Prop} {κ : Wd} {σ : L2.St} (hv : ∀ i ∈ t.slots, i ∈ vs)
    (h : WIH Y ρ c tg iter (LcAskH Y ρ scope vs t elt QL)) (hc : κ.c = c) (o : κ.Ok Y.X.K) (r : REnv Y.X.K κ σ ρ) (g : GoX Y κ σ ρ) {Q' : VK}
    (G : ∀ p xs l κ', κ.le κ' → κ'.Ok Y.X.K → Side κ' p (.lst xs) → κ.H p = none → Rps Y.X.K κ'.I l xs → QL l κ'.c → Q' (.ref p) κ'.H) :
    tLc (wIH Y.X tg iter) (t.g Y.X.K) tYes (fun σ H Q => ∀ b : Blk, wE (Y.blkH scope b).X elt σ H Q) vs σ κ.H Q' := by
  refine h κ σ hc o r g _ fun J ds κ1 l1 o1 it ⟨P, p0, turn, fin⟩ => fun Dl hD => ?_
  have hD0 : κ.H Dl = none := by
    cases q : κ.H Dl with
    | none => rfl
    | some x => exact absurd hD (l1.hd Dl (by rw [q]; intro z; cases z))
  refine ⟨fun i m H' => m = ds.length - i ∧ i ≤ ds.length ∧ ∃ κ' acc xs, κ1.le κ' ∧ κ'.Ok Y.X.K ∧ Side κ' Dl (.lst xs) ∧ Rps Y.X.K κ'.I acc xs ∧ P i acc κ'.c ∧ κ'.H = H',
    ⟨ds.length, by simp, Nat.zero_le _, ⟨κ1.I, upd κ1.H Dl (.lst []), κ1.th, κ1.c⟩, [], [], Wd.aux_le hD, o1.aux hD, Side.new o1 hD, Rps.nil, p0, rfl⟩, ?_⟩
  rintro i m H' ⟨rfl, hi, κ', acc, xs, l', o', s', ra, p, rfl⟩
  by_cases hlt : i < ds.length
  · have hd : ds[i]? = some ds[i] := List.getElem?_eq_getElem hlt
    refine .inr ⟨it.go κ' l'.ii o' i hlt, fun H2 => ∃ κ2 acc xs, κ1.le κ2 ∧ κ2.Ok Y.X.K ∧ Side κ2 Dl (.lst xs) ∧ Rps Y.X.K κ2.I acc xs ∧ P (i + 1) acc κ2.c ∧ κ2.H = H2, fun H2 ⟨κ2, acc2, xs2, a1, a2, a3, a4, a5, a6⟩ => ⟨ds.length - (i + 1), by omega, rfl, hlt, κ2, acc2, xs2, a1, a2, a3, a4, a5, a6⟩, fun x H2 y => ?_⟩
    obtain ⟨κ2, l2, o2, rfl, ec, rp⟩ := it.yld κ' l'.ii o' i _ x H2 hd y
    obtain ⟨hz, hf, hb⟩ := turn i _ acc κ2.c hd (by rw [ec]; exact p)
    have r2 : REnv Y.X.K κ2 (L2.wipe σ vs) (wipeW ρ vs) := (r.le ((l1.trans l').trans l2)).wipe vs
    refine Tgt.go hf o2 rp r2 fun σ3 hw r3 => ⟨by rw [hw vs hv, wipe_wipe], ?_⟩
    intro b2
    refine hb b2 κ2 σ3 rfl o2 r3 GoX.blkH _ fun v w κ4 l4 o4 rw4 ⟨e, ew, q4⟩ => ?_
    subst ew
    have s4 := (s'.le l2).le l4
    refine ⟨xs, s4.h, by rw [ra.len]; exact Nat.lt_of_lt_of_le hz (by decide), ?_⟩
    obtain ⟨o5, s5⟩ := o4.side (u' := .lst (xs ++ [v])) s4
    exact ⟨⟨κ4.I, upd κ4.H Dl (.lst (xs ++ [v])), κ4.th, κ4.c⟩, acc ++ [e], xs ++ [v], Wd.le.side ((l'.trans l2).trans l4) s4 hD, o5, s5, Rps.snoc (Rps.ex (l2.trans l4).ii _ ra) rw4, q4, rfl⟩
  · have e : i = ds.length := by omega
    subst e
    exact .inl ⟨it.stop κ' l'.ii o', G Dl xs acc κ' (l1.trans l') o' s' hD0 ra (fin acc κ'.c p)⟩
theorem we_lcH {elt tg iter : Expr} {scope : Scope} {own : List (Str × Nat)} {pos : Pos} (t : Tgt) (hot : HotC Y.X) (hN : Y.X.N.Nodup) (ok : BlkOk Y.X.N Y.X.env.scope scope own) (hv : ∀ i ∈ t.slots, i ∈ own.map (·.2))
    (hg : ∀ b : Blk, PG (Y.blkH scope b).X tg (t.g Y.X.K)) (h : WIH Y ρ c tg iter (LcAskH Y ρ scope (own.map (·.2)) t elt fun l c' => Q (.im (.lst l)) c')) (hs : ∀ x, foldedSetIterable iter Y.X.env x = pure x) :
    WE Y ρ c (.ListComp elt [⟨tg, iter, [], 0⟩] scope pos) Q := fun κ σ hc o r g Q' G =>
  PE.w (pe_lcH hot hN pih_w ok (fun s H C cl fp => hg ⟨s, H, C, cl, fp⟩) (fun s H C cl fp => pts_nil) (fun s H C cl fp => ⟨fun pins s1 σ1 H1 Q1 I1 h1 => h1 ⟨s, H, C, cl, fp⟩ pins s1 I1⟩) hs)
    (lc_semH hv h hc o r g fun p xs l κ' l' o' s' hp rl q => by
      obtain ⟨o2, ee⟩ := o'.adopt s'
      exact G (.ref p) (.im (.lst l)) ⟨upd κ'.I p (.lst xs), κ'.H, κ'.th, κ'.c⟩ (l'.adopt s' hp) o2 ⟨p, xs, rfl, upd_same, Rps.ex ee l rl⟩ q)
/-- a comprehension that leaves the cells as they are -/
theorem lcH_list {scope : Scope} {vs : List Nat} {t : Tgt} {elt : Expr} {QL : List D → List Cell → Prop} {ds : List D} (gs : List D) (hl : gs.length = ds.length) (hz : ds.length ≤ 1000000)
    (h : ∀ (i : Nat) d e, ds[i]? = some d → gs[i]? = some e → t.fits d ∧ ∀ b : Blk, WE (Y.blkH scope b) (t.bind (wipeW ρ vs) d) c elt fun w c3 => w = .im e ∧ c3 = c) (q : QL gs c) : LcAskH Y ρ scope vs t elt QL ds c := by
  refine ⟨fun i acc c' => acc = gs.take i ∧ c' = c, ⟨by simp, rfl⟩, fun i d acc c' hi ⟨ha, hc⟩ => ?_, fun acc c' ⟨ha, hc⟩ => ?_⟩
  · subst ha; subst hc
    have hlt : i < ds.length := (List.getElem?_eq_some_iff.mp hi).1
    have he : gs[i]? = some gs[i] := List.getElem?_eq_getElem (by omega)
    obtain ⟨h1, h2⟩ := h i d _ hi he
    refine ⟨by rw [List.length_take]; omega, h1, fun b => (h2 b).mono fun w c3 ⟨e1, e2⟩ => ⟨_, e1, ?_, e2⟩⟩
    rw [List.take_add_one, he]; rfl
  · subst ha; subst hc
    rw [← hl, List.take_length]; exact q
theorem wc_allH {w : W} {bs : List Bool} (hot : HotC Y.X) (s1 : Sn c w (.lst (bs.map D.bl))) (q : Q (.im (.bl (bs.all id))) c) : WC Y (.builtin "all") [w] c Q := wc_s (cr_allH hot) s1 fun κ a vs Q' e o g1 g2 G => ⟨a, bs, rfl, by rw [← g2.bls]; exact SqL.of g1, G (.bl _) (.im (.bl (bs.all id))) κ (.refl _) o rfl (by rw [e]; exact q)⟩
end
end WL
/-! Exceptions whose context is known to be None; the caught exception as a value. -/
namespace WL
open PySem PySem.Spec PyProof.Rows L2 L2H HotX
/-! ### making them -/
section
variable {X : Cx} {x : Str} {e : Expr} {es : List Expr} {ta : TA} {p pos : Pos}
theorem pmkN_own0 {C : Addr} {B newId initId : String} {bmB : List Value} (F : ExcBaseFacts B newId initId bmB) (q : PySem.W.excIn X.K C bmB newId = true) (gC : X.mg x = some (.ref C)) (kC : PySem.W.keepIn X.K (.ref C) = true) (r : Raises X (.ref C)) (hg : Gl X x)
    (hdb : (x == ("__debug__" : Str)) = false) : L2N.PMk X (.Call (.Name x p) [] [] pos) (fun _ H Q => Q (.ref C) none H) := by
  intro pins s σ H Q I h
  refine wpAny_Call_Name_kw (ld_glob I hg gC ?_ hdb)
  refine PySem.W.callWith_K0 I.kIn kC ?_
  show wpAny _ _ (call (.ref C) []) _ _ _
  obtain ⟨bm, N, nm, qn, bs, hdct, sn, sub, ab, col, dd, k0, k1, k2, k3, k5, mN, hC, hN, hni, T⟩ := exc_obj I.kIn q
  refine wpAny_call_exc_subT F T hC hN hni (fun h' e hm => ?_) (by show 0 ≤ sizeLine; exact Nat.zero_le _)
  exact L2N.mk_of I hm r h (I.hok.gone hm.new)
theorem pmkN_oex {CX : CXT} {C fI : Addr} {k : Nat} {fd : FuncData} {ps : List Str} {sp : Sp} (T : OexC X.K C) (iC : PySem.W.findIn X.K (.ref C) "__init__" = some (some (.ref fI))) (tI : PySem.W.typeIn X.K (.ref fI) = some (.type "function"))
    (F1 : FnOk X.prog X.w X.K X.mg X.base CX k fI fd ps sp) (hr : Room (k + 1) X.A) (hb : Binds X.K fd ps []) (hx : Passes CX X (fun _ _ _ => False)) (hg : Gl X x) (hm : X.mg x = some (.ref C)) (ha : PA X (e :: es) ta)
    (hdb : (x == ("__debug__" : Str)) = false) (he : starEach (e :: es) X.env = (false, eval e X.env) :: starEach es X.env) (hpl : (backTo pos (starEach es X.env)).any (·.1) = false) :
    L2N.PMk X (.Call (.Name x p) (e :: es) [] pos) (tMkO C sp [] ta) := by
  intro pins s σ H Q J h
  obtain ⟨nm, q, N, bs, bm, sn, sub, ab, col, dd, k0, k1, k2, k3, k5, hC, hbm⟩ := T.cls
  refine wpAny_Call_Name_kw (ld_glob J hg hm ?_ hdb)
  refine PySem.W.callWith_K (h₀ := X.base) J.ok.mod.kin T.kC (thn (ha.run pos pins s σ H _ J h) fun us s1 ⟨vs, H1, J1, r1, hz, q1⟩ => ⟨J1.kIn, ?_⟩) he hpl
  show wpAny _ _ (call (.ref C) us) _ _ _
  obtain ⟨hp, g, dr, tk, os⟩ := s1
  have up : hp.objs.size ≤ hp.objs.size + 1 := Nat.le_succ _
  have hn : H1 (hp.objs.size + 1) = none := J1.hok.fresh up
  have hq := q1 (hp.objs.size + 1) hn
  rw [List.append_nil] at hq
  have keep : ∀ b o, hp.get? b = some o → ((hp.push (PySem.W.kdv_tup us)).push (PySem.HandSPX.excO C hp.objs.size)).get? b = some o := fun b o z => Heap.get?_push_of_some _ (Heap.get?_push_of_some _ z)
  have hget : ((hp.push (PySem.W.kdv_tup us)).push (PySem.HandSPX.excO C hp.objs.size)).get? (hp.objs.size + 1) = some (PySem.HandSPX.excO C hp.objs.size) := by heap_get
  have J2 : Inv X pins σ (upd H1 (hp.objs.size + 1) (exo (hp.objs.size + 1) C none)) ⟨(hp.push (PySem.W.kdv_tup us)).push (PySem.HandSPX.excO C hp.objs.size), g, dr, tk, os⟩ :=
    J1.laid (t' := tk) (a := hp.objs.size + 1) (o := exo (hp.objs.size + 1) C none) (h' := (hp.push (PySem.W.kdv_tup us)).push (PySem.HandSPX.excO C hp.objs.size)) keep up (exo_ok hget)
  have r2 : Vals (V.ref (hp.objs.size + 1) :: vs) (Value.ref (hp.objs.size + 1) :: us) := .cons rfl r1
  have hl : (Value.ref (hp.objs.size + 1) :: us).length = ps.length := by
    have z := r2.length
    rw [F1.len _ _ _ _ hq] at z
    exact z.symm
  have hus : us.length ≤ sizeLine := by
    rw [← Paired.length r1, sizeLine_eq]
    omega
  have b2 := hb ⟨(hp.push (PySem.W.kdv_tup us)).push (PySem.HandSPX.excO C hp.objs.size), g, dr, tk, os⟩ (Value.ref (hp.objs.size + 1) :: us) J2.kIn (by rw [List.append_nil]; exact hl)
  rw [List.append_nil] at b2
  refine wpAny_call (PySem.HandSPX.call_own F.excBase_ValueError (fun Y => PySem.HandSPX.refsVE_contains Y bm hbm) (J1.kIn _ _ hC) (PySem.W.looks_findIn J1.kIn iC) (fun self => PySem.W.bind_fn J1.kIn self tI) hus
    (codeAny_mono (F1.run _ X.stack _ _ ⟨Value.ref (hp.objs.size + 1) :: us, []⟩ (Value.ref (hp.objs.size + 1) :: us) _ _ (fun _ _ _ => False) (hr.make C us []) (J2.env0.make C us []) b2 r2 hq) fun r s' hq' => ?_))
  cases r with
  | ok fl =>
    cases fl with
    | next => exact hq'.elim
    | ret u =>
      obtain ⟨v, H2, os2, bare2, un2, hok2, rv, ev, d, fs, ea, ed, hd1, q2⟩ := hq'
      subst ev
      obtain ⟨h2, g2, d2, t2, os'⟩ := s'
      obtain ⟨t0, G, J3, kG, ge, hoe, na⟩ := mk_end0 (d2 := d2) (t2 := t2) J1 up keep un2 hok2 os2 bare2 ea ed hd1
      exact ⟨rv, hp.objs.size + 1, _, _, ⟨G, g2, d2, t2, os'⟩, _, .ref C, some d, rfl, J3, kG, ge, hoe, ⟨rfl, rfl, fun vs hv => by cases hv; rfl⟩, rfl, rfl, na, rfl, bare2, raises_own T.exC T.tyC, q2⟩
    | cont => exact hq'.elim
    | brk => exact hq'.elim
  | error er => exact hx pins σ _ _ er s' J2 hq'
end
section
variable {Y : Cy} {ρ : Ρ} {c : List Cell} {κ : Wd} {σ : L2.St} {De : Ends} {W0 : WX} {P : Program} {wd : World} {K : PySem.W.Frag} {mg : Str → Option Value} {base : Heap}
/-- raise C() -/
theorem wS_raise0N {x : Str} {C : Addr} {p pp pos : Pos} (hcm : Y.X.calm = true) (tkN : L2N.Takes Y.X W0) (T : ExcC Y.X.K Y.X.mg x C) (hg : Gl Y.X x) (hdb : (x == ("__debug__" : Str)) = false) (q : W0 (.ref C) none σ κ.H) : wS Y.X (.Raise (some (.Call (.Name x p) [] [] pp)) none pos) De σ κ.H :=
  PS.w (L2N.ps_raise hcm tkN (pmkN_own0 PySem.F.excBase_ValueError T.ex T.g T.kp (raises_own T.sb T.ty) hg hdb)) q
/-- raise C(e, ..), a class with fields -/
theorem wS_raiseXN {k : Nat} {C : Addr} {fs ps : List Str} {x : Str} {e : Expr} {es : List Expr} {p pp pos : Pos} (hx : HasX P wd K mg base k x C ps fs) (hY : CyIs Y P wd K mg base) (hcm : Y.X.calm = true) (tkN : L2N.Takes Y.X W0) (hr : Room (k + 1) Y.X.A) (hg : Gl Y.X x)
    (hdb : (x == ("__debug__" : Str)) = false) (he : starEach (e :: es) Y.X.env = (false, eval e Y.X.env) :: starEach es Y.X.env) (hpl : (backTo pp (starEach es Y.X.env)).any (·.1) = false) (hfl : fs.length ≤ 900) {ds : List D} (hds : ds.length = fs.length)
    (hc : κ.c = c) (o : κ.Ok Y.X.K) (r : REnv Y.X.K κ σ ρ) (g : GoX Y κ σ ρ) (h : WA Y ρ c (e :: es) fun ws c1 => ws = ds.map W.im ∧ c1 = c)
    (q : ∀ κ1 vs dx, κ.le κ1 → κ1.Ok Y.X.K → κ1.c = c → Rps Y.X.K κ1.I ds vs → κ1.H dx = none → W0 (.ref C) (some dx) σ (upd κ1.H dx (.xd (fs.reverse.zip vs.reverse)))) : wS Y.X (.Raise (some (.Call (.Name x p) (e :: es) [] pp)) none pos) De σ κ.H := by
  obtain ⟨rfl, rfl, rfl, rfl, rfl⟩ := hY
  obtain ⟨fd, hm, hF, hb⟩ := hx.ex
  refine PS.w (L2N.ps_raise hcm tkN (pmkN_oex hx.xc.o hx.xc.ini hx.xc.tyI hF hr hb passL hg hm pa_w hdb he hpl)) (h.bind hc o r g fun vs ws κ1 l1 o1 r1 g1 rws ⟨e1, ec⟩ => ?_)
  subst e1
  have rps := ims_rps rws
  have hvl := rps.len
  refine ⟨by omega, fun a ha => ?_⟩
  refine ⟨a, vs, by rw [List.append_nil], by omega, upd_same, fun dx hdx hne => ?_⟩
  have hd1 : κ1.H dx = none := by rw [upd_ne hne] at hdx; exact hdx
  refine ⟨rfl, dx, _, upd_same, by rw [upd_ne hne, upd_same], hd1, ?_⟩
  have eH : upd (del (upd (upd (upd κ1.H a (exo a C none)) dx (exd dx (fs.reverse.zip vs.reverse))) a (exo a C (some dx))) a) dx (HO.xd (fs.reverse.zip vs.reverse)) = upd κ1.H dx (HO.xd (fs.reverse.zip vs.reverse)) := by
    funext b
    by_cases hbd : b = dx
    · subst hbd; rw [upd_same, upd_same]
    · rw [upd_ne hbd, upd_ne hbd]
      by_cases hba : b = a
      · subst hba; rw [del_same, ha]
      · rw [del_ne hba, upd_ne hba, upd_ne hbd, upd_ne hba]
  rw [eH]
  exact q κ1 vs dx l1 o1 ec rps hd1
end
/-! ### the caught exception -/
/-- its dict, as a cell -/
def xdC (K : PySem.W.Frag) (d : Addr) (ns : List Str) (l : List D) : Cell := .xo fun I a o => a = d ∧ ∃ vs, o = HO.xd (ns.zip vs) ∧ ns.length = vs.length ∧ Rps K I l vs
/-- what is known of it: its class, its dict -/
def XDat (K : PySem.W.Frag) (c : List Cell) (ns : List Str) (l : List D) (dd : Option Addr) : Prop := (dd = none ∧ ns = [] ∧ l = []) ∨ ∃ (d : Addr) (n : Nat), dd = some d ∧ c[n]? = some (xdC K d ns l)
theorem xdC_at {K : PySem.W.Frag} {κ : Wd} {d : Addr} {n : Nat} {ns : List Str} {l : List D} (o : κ.Ok K) (h : κ.c[n]? = some (xdC K d ns l)) : ∃ vs, κ.H d = some (.xd (ns.zip vs)) ∧ ns.length = vs.length ∧ Rps K κ.I l vs := by
  have hn : n < κ.th.length := by rw [o.len]; exact (List.getElem?_eq_some_iff.mp h).1
  obtain ⟨x, hx, hr⟩ := o.cl n _ _ (List.getElem?_eq_getElem hn) h
  obtain ⟨ea, vs, eo, h1, h2⟩ := hr κ.I (Ex.refl _)
  subst eo
  rw [ea] at hx
  exact ⟨vs, hx, h1, h2⟩
section
variable {X : Cx} {a D0 : Addr} {oe : Obj} {dd : Option Addr}
theorem call_isP (C : L2.ExcC X.K D0) (hz : Zc (.ref D0) dd oe) (hf : ∃ vs, oe.data = .fields vs) (hp : (a, oe) ∈ X.pn) : CallR X (.builtin "isinstance") (fun xs M Q => ∃ (v : V) (cv : Value) (b : Bool), xs = [.ref a, v] ∧ (dd = none ∨ ∃ d fs, dd = some d ∧ M d = some (.xd fs)) ∧ (∀ u, RelV v u → u = cv) ∧ PySem.W.kitOne X.K (.ref D0) cv = some b ∧ Q (.bl b) M) := by
  intro pins s σ M xs us Q J r h
  obtain ⟨v, cv, b, rfl, hd, hcv, e, q⟩ := h
  cases r with
  | cons rx rr =>
    cases rr with
    | cons rt rr =>
      cases rr
      cases rx
      have ec := hcv _ rt
      subst ec
      obtain ⟨hget, _⟩ := J.pin (a, oe) (List.mem_append_left _ hp)
      obtain ⟨vs, hv⟩ := hf
      have fin : ∀ od : Option Obj, PySem.W.InstAt s.heap a oe D0 od → wpAny (model X.prog X.w) X.A (call (.builtin "isinstance") [.ref a, _]) (EP X pins σ Q) X.xe s := fun od I0 =>
        PySem.W.kia_one (PySem.W.kitx_exc (by obtain ⟨cd, z, _⟩ := PySem.W.any_some C.hd; rw [z]; rfl) C.hg C.hk C.hs C.ha C.hn C.ht C.hm) J.kIn I0 e (fun z => nomatch z) fun tk => ⟨.bl b, M, J.kept (t' := tk) fun _ _ z => z, rfl, q⟩
      rcases hd with rfl | ⟨d, fs, rfl, hM⟩
      · refine fin none ⟨hget, hz.1, by unfold PySem.W.notCls; rw [hv] <;> rfl, ?_⟩
        rw [hz.2]; trivial
      · have hx : ObjOk X.prog X.w M s.heap d (.xd fs) := J.hok d _ hM
        obtain ⟨mA, hns, _⟩ := hx
        obtain ⟨od, ho, _⟩ := lookIn_ns hns
        exact fin (some od) ⟨hget, hz.1, by unfold PySem.W.notCls; rw [hv] <;> rfl, by rw [hz.2]; exact ho⟩
theorem pe_xfP {C : Addr} {cls : Value} {d : Option Addr} {e : Expr} {te : TE} {pos : Pos} {n : Str} (T : XfC X.K C) (hno : PySem.W.findIn X.K (.ref C) n = some none)
    (hz : Zc cls d oe) (hf : ∃ vs, oe.data = .fields vs) (hp : (a, oe) ∈ X.pn) (he : PE X e te) (hb : attributeBase e n X.env (eval e X.env) = eval e X.env) :
    PE X (.Attribute e n pos) (tXf a cls d C n te) := by
  refine ⟨fun pins s σ H Q J h => attr_of hb (thn (he.run pins s σ H _ J h) fun u s1 hh => ?_)⟩
  obtain ⟨x, H1, J1, rx, ex, ec, dd, fs, v, ed, ea, l, q⟩ := hh
  subst ex
  obtain rfl : u = Value.ref a := rx
  subst ec
  subst ed
  obtain ⟨hget, _⟩ := J1.pin (a, oe) (List.mem_append_left _ hp)
  obtain ⟨vs, hd⟩ := hf
  have hx : ObjOk X.prog X.w H1 s1.heap dd (.xd fs) := J1.hok dd _ ea
  obtain ⟨mA, hns, hr⟩ := hx
  obtain ⟨od, ho, hl⟩ := lookIn_ns hns
  obtain ⟨u, hu, ru⟩ := RelO.some_of (v := v) (o := mA n) (by rw [← l]; exact hr n)
  have I0 : PySem.W.InstAt s1.heap a oe C (some od) := ⟨hget, hz.1, by unfold PySem.W.notCls; rw [hd] <;> rfl, by rw [hz.2]; exact ho⟩
  exact HandSPX.exc_get J1.kIn I0 T.ga T.gg T.exC (PySem.W.findObj_own T.hdC hno rfl (by rw [hl, hu])) (handed_of ru) ⟨v, H1, J1.tok _, ru, q⟩
end
section
variable {Y : Cy} {ρ : Ρ} {c : List Cell} {Q : KQ} {a D0 : Addr} {oe : Obj} {dd : Option Addr} {ns : List Str} {l : List D}
theorem xdat_go {κ : Wd} (o : κ.Ok Y.X.K) (hc : κ.c = c) (hx : XDat Y.X.K c ns l dd) : dd = none ∨ ∃ d fs, dd = some d ∧ κ.H d = some (.xd fs) := by
  rcases hx with ⟨h, _⟩ | ⟨d, n, h, hn⟩
  · exact .inl h
  · subst hc
    obtain ⟨vs, h1, _⟩ := xdC_at o hn
    exact .inr ⟨d, _, h, h1⟩
/-- isinstance(e, C), C an own class -/
theorem wc_isP {B : Addr} {b : Bool} (C : L2.ExcC Y.X.K D0) (hz : Zc (.ref D0) dd oe) (hf : ∃ vs, oe.data = .fields vs) (hp : (a, oe) ∈ Y.X.pn) (hx : XDat Y.X.K c ns l dd) (hk : PySem.W.kitOne Y.X.K (.ref D0) (.ref B) = some b) (q : Q (.im (.bl b)) c) : WC Y (.builtin "isinstance") [.im (.cls a), .im (.cls B)] c Q := fun κ xs ec o r Q' G => by
  obtain ⟨v1, rr, rfl, rv1, v2, rr2, rfl, rv2, hn⟩ := r
  have hn : rr2 = [] := hn
  subst hn
  obtain rfl : v1 = .ref a := rv1
  obtain rfl : v2 = .ref B := rv2
  exact CallR.w (call_isP C hz hf hp) ⟨.ref B, .ref B, b, rfl, xdat_go o ec hx, fun u z => z, hk, G (.bl b) (.im (.bl b)) κ (.refl _) o rfl (by rw [ec]; exact q)⟩
/-- isinstance(e, T), T a built-in class -/
theorem wc_isPT {T : String} {b : Bool} (C : L2.ExcC Y.X.K D0) (hz : Zc (.ref D0) dd oe) (hf : ∃ vs, oe.data = .fields vs) (hp : (a, oe) ∈ Y.X.pn) (hx : XDat Y.X.K c ns l dd) (hk : PySem.W.kitOne Y.X.K (.ref D0) (.type T) = some b) (q : Q (.im (.bl b)) c) : WC Y (.builtin "isinstance") [.im (.cls a), .im (.ty T)] c Q := fun κ xs ec o r Q' G => by
  obtain ⟨v1, rr, rfl, rv1, v2, rr2, rfl, rv2, hn⟩ := r
  have hn : rr2 = [] := hn
  subst hn
  obtain rfl : v1 = .ref a := rv1
  obtain rfl : v2 = .ty T := rv2
  exact CallR.w (call_isP C hz hf hp) ⟨.ty T, .type T, b, rfl, xdat_go o ec hx, fun u z => z, hk, G (.bl b) (.im (.bl b)) κ (.refl _) o rfl (by rw [ec]; exact q)⟩
/-- e.f -/
theorem we_xfP {f : Str} {d : Addr} {dv : D} {n : Nat} {e : Expr} {pos : Pos} (T : XfC Y.X.K D0) (hno : PySem.W.findIn Y.X.K (.ref D0) f = some none) (hz : Zc (.ref D0) (some d) oe) (hf : ∃ vs, oe.data = .fields vs) (hp : (a, oe) ∈ Y.X.pn)
    (hb : attributeBase e f Y.X.env (eval e Y.X.env) = eval e Y.X.env) (h : WE Y ρ c e fun w c1 => w = .im (.cls a) ∧ c1[n]? = some (xdC Y.X.K d ns l) ∧ (ns.zip l).lookup f = some dv ∧ Q (.im dv) c1) : WE Y ρ c (.Attribute e f pos) Q := fun κ σ hc o r g Q' G =>
  PE.w (pe_xfP T hno hz hf hp pe_w hb) (h.bind hc o r g fun v w κ1 l1 o1 r1 g1 rw1 ⟨ew, hcn, hlk, q⟩ => by
    subst ew
    obtain ⟨vs, h1, h2, h3⟩ := xdC_at o1 hcn
    obtain ⟨u, hu, ru⟩ := look_zip h3 hlk
    exact ⟨rw1, rfl, d, _, u, rfl, h1, hu, G u (.im dv) κ1 l1 o1 ru q⟩)
end
end WL
/-! A def that raises one of four exceptions, called in a try whose clause names the exception. -/
namespace WL
open PySem PySem.Spec PyProof.Rows L2 L2H HotX
theorem roomH_units {k : Nat} {A : Around} (r : RoomH k A) : A.units + 64 < cLine := by have := r.un; omega
def xisB (K : PySem.W.Frag) (D0 : Addr) : Bool := decide (PySem.W.findIn K (.ref D0) "__getattribute__" = some (some (.builtin "BaseException.__getattribute__"))) && (decide (PySem.W.findIn K (.ref D0) "__getattr__" = some none) && (decide (PySem.W.subIn K (.ref D0) (.type "BaseException") = some true) && (PySem.W.hasDictIn K D0 &&
  (decide (PySem.W.findIn K (.ref D0) "__class__" = some (some (.builtin "object.__class__"))) && (decide (PySem.W.specialIn K (.builtin "object.__class__") "__get__" = some (some (.builtin "getset_descriptor.__get__"))) && (decide (PySem.W.takesIn K (.builtin "object.__class__") = some true) && decide (PySem.W.mroIn K D0 (.type "object") = some true)))))))
theorem xisB_ok {K : PySem.W.Frag} {D0 : Addr} (h : xisB K D0 = true) : L2.ExcC K D0 := by
  unfold xisB at h
  simp only [Bool.and_eq_true, decide_eq_true_eq] at h
  obtain ⟨h1, h2, h3, h4, h5, h6, h7, h8⟩ := h
  exact ⟨h1, h2, h3, h4, h5, h6, h7, h8⟩
/-- how its exception lies behind it -/
def ThrN (K : PySem.W.Frag) (E : XK) (κ : Wd) (one two : D) : Nat → Prop
  | 0 => E (.ref (He.ga K "BadLand")) none κ.H
  | 1 => E (.ref (He.ga K "BadMoment")) none κ.H
  | 2 => ∀ v d, Rp K κ.I one v → κ.H d = none → E (.ref (He.ga K "BadRules")) (some d) (upd κ.H d (.xd [("index", v)]))
  | _ => ∀ v u d, Rp K κ.I one v → Rp K κ.I two u → κ.H d = none → E (.ref (He.ga K "BadText")) (some d) (upd κ.H d (.xd [("word", u), ("line", v)]))
def spT (K : PySem.W.Frag) : Sp := fun vs H _ E => ∃ (κ : Wd) (ws : List W), κ.H = H ∧ κ.Ok K ∧ RWs K κ.I κ.th ws vs ∧ ∃ (k : Nat) (one two : D), k < 4 ∧ ws = [.im (.int (k : Nat)), .im one, .im two] ∧ ∀ κ' : Wd, κ.le κ' → κ'.Ok K → κ'.c = κ.c → ThrN K E κ' one two k
/-- such a def's body: the context -/
def cyN (P : Program) (w : World) (K : PySem.W.Frag) (mg : Str → Option Value) (base : Heap) (N : List Str) (qual : Str) (scope : Scope) (f : Addr) (cd : Value) (A : Around) (outer : List Env) (s : Shared) (H : Hp) (E : XK) : Cy where
  X := cxOf (L2N.CX P w) P w K mg base N qual scope f cd A outer s H E
  Wx := fun _ _ _ _ => False
  tk := L2.takes0
  po := passes_of rfl
  Qx := fun _ _ _ => False
section
variable {Y : Cy} {ρ : Ρ} {c : List Cell} {κ : Wd} {σ : L2.St}
theorem wSs_if {t : Expr} {a rest : List Stmt} {pos : Pos} {De : Ends} (b0 : Bool) (hT : WT Y ρ c t fun b c1 => b = b0 ∧ c1 = c) (hc : κ.c = c) (o : κ.Ok Y.X.K) (r : REnv Y.X.K κ σ ρ) (g : GoX Y κ σ ρ)
    (h : ∀ κ1, κ.le κ1 → κ1.Ok Y.X.K → κ1.c = c → REnv Y.X.K κ1 σ ρ → (b0 = true → wSs Y.X a { De with nx := wSs Y.X rest De } σ κ1.H) ∧ (b0 = false → wSs Y.X rest De σ κ1.H)) : wSs Y.X (.If t a [] pos :: rest) De σ κ.H :=
  PSs.w (pss_cons ps_w pss_w) (PS.w (ps_if pt_w pss_w pss_w) (hT.bind hc o r g fun b κ1 l1 o1 r1 g1 ⟨e1, e2⟩ => by
    subst e1
    obtain ⟨h1, h2⟩ := h κ1 l1 o1 e2 r1
    cases b with
    | true => exact h1 rfl
    | false => exact PSs.w pss_nil (h2 rfl)))
end
/-- in the try's body -/
def Cy.trN (Y : Cy) (pn : List (Addr × Obj)) (xe : Value → Shared → Prop) (po : PassesOwn (model Y.X.prog Y.X.w) Y.X.A Y.X.env xe) : Cy := ⟨Y.X.tr pn xe, fun _ _ _ _ => False, L2.takes0, po, fun _ _ _ => False⟩
/-- behind the clause the name is gone -/
def EndsW.un (Z : EndsW) (i : Nat) : EndsW where
  nx := fun ρ c => Z.nx (ρ.set i none) c
  rt := Z.rt
  bk := fun ρ c => Z.bk (ρ.set i none) c
  ct := fun ρ c => Z.ct (ρ.set i none) c
theorem EOk.un {Y : Cy} {κ0 : Wd} {Z : EndsW} {De : Ends} {i : Nat} {a : Addr} {pn : List (Addr × Obj)} (E : EOk Y κ0 Z De) : EOk (Y.suite a pn) κ0 (Z.un i) { nx := fun σ' H' => De.nx (σ'.set i none) H', rt := De.rt, bk := fun σ' H' => De.bk (σ'.set i none) H', ct := fun σ' H' => De.ct (σ'.set i none) H' } :=
  ⟨fun σ' κ' ρ' l o r q => E.nx _ κ' _ l o (r.unset i) q, E.rt, fun σ' κ' ρ' l o r q => E.bk _ κ' _ l o (r.unset i) q, fun σ' κ' ρ' l o r q => E.ct _ κ' _ l o (r.unset i) q, fun _ _ _ _ _ _ _ _ _ _ q => q.elim⟩
section
variable {Y : Cy} {ρ : Ρ} {c : List Cell} {n0 : Nat} {Z : EndsW} {P : Program} {wd : World} {K : PySem.W.Frag} {mg : Str → Option Value} {base : Heap}
theorem xd_cell {κ : Wd} {dx : Addr} {ns : List Str} {l : List D} {vs : List V} (o : κ.Ok K) (hd : κ.H dx = none) (hl : ns.length = vs.length) (r : Rps K κ.I l vs) :
    κ.le ⟨κ.I, upd κ.H dx (.xd (ns.zip vs)), κ.th ++ [dx], κ.c ++ [xdC K dx ns l]⟩ ∧ Wd.Ok K ⟨κ.I, upd κ.H dx (.xd (ns.zip vs)), κ.th ++ [dx], κ.c ++ [xdC K dx ns l]⟩ :=
  ⟨Wd.cell_le hd, o.cell hd ⟨.xd (ns.zip vs), upd_same, fun I' e => ⟨rfl, vs, rfl, hl, Rps.ex e l r⟩⟩⟩
theorem ws_tryT {f : Addr} {fd : FuncData} {k k0 i : Nat} {ps : List Str} {x xc n : Str} {C : Addr} {e : Expr} {es : List Expr} {b₀ : Stmt} {suite : List Stmt} {p pp pe np pos' pos : Pos} {one two : D}
    (F : FnOk P wd K mg base (L2N.CX P wd) k0 f fd ps (spT K)) (hY : CyIs Y P wd K mg base) (hm : mg x = some (.ref f)) (hkp : PySem.W.keepIn K (.ref f) = true) (hb : Binds K fd ps []) (hr : Room k0 Y.X.A) (hg : ∀ pn xe, Gl (Y.X.tr pn xe) x) (hdb : (x == ("__debug__" : Str)) = false)
    (he : starEach (e :: es) Y.X.env = (false, eval e Y.X.env) :: starEach es Y.X.env) (hpl : (backTo pp (starEach es Y.X.env)).any (·.1) = false) (hsw : swapsWith (.Call (.Name x p) (e :: es) [] pp) none pe.line Y.X.env = pure false)
    (hst : Y.X.stack = Y.X.env :: Y.X.outer) (hf : Y.X.env.frame = some Y.X.env.locals) (hN : Y.X.N.Nodup) (hi : Y.X.N.idxOf? n = some i) (hln : Y.X.env.scope.names.lookup n = some .local) (hc : Names Y.X xc (.ref C))
    (x0 : PySem.W.exmOne K (.ref (He.ga K "BadLand")) (.ref C) = some true) (x1 : PySem.W.exmOne K (.ref (He.ga K "BadMoment")) (.ref C) = some true) (x2 : PySem.W.exmOne K (.ref (He.ga K "BadRules")) (.ref C) = some true) (x3 : PySem.W.exmOne K (.ref (He.ga K "BadText")) (.ref C) = some true)
    (hk : k < 4) (ha : ∀ pn xe po, WA (Y.trN pn xe po) ρ c (e :: es) fun ws c1 => ws = [.im (.int (k : Nat)), .im one, .im two] ∧ c1 = c)
    (h0 : ∀ (D0 : Addr), (k = 0 ∧ D0 = He.ga K "BadLand") ∨ (k = 1 ∧ D0 = He.ga K "BadMoment") → ∀ a oe pn, L2N.Zn (.ref D0) none oe → (∃ vs, oe.data = .fields vs) → WSs (Y.suite a ((a, oe) :: pn)) n0 (ρ.set i (some (.im (.cls a)))) c (b₀ :: suite) (Z.un i))
    (h2 : ∀ (D0 : Addr) (ns : List Str) (l : List D), (k = 2 ∧ D0 = He.ga K "BadRules" ∧ ns = [("index" : Str)] ∧ l = [one]) ∨ (k = 3 ∧ D0 = He.ga K "BadText" ∧ ns = [("word" : Str), ("line" : Str)] ∧ l = [two, one]) → ∀ a oe pn dx, L2N.Zn (.ref D0) (some dx) oe → (∃ vs, oe.data = .fields vs) →
      WSs (Y.suite a ((a, oe) :: pn)) n0 (ρ.set i (some (.im (.cls a)))) (c ++ [xdC K dx ns l]) (b₀ :: suite) (Z.un i)) :
    WS Y n0 ρ c (.Try [.Expr (.Call (.Name x p) (e :: es) [] pp) pe] [.ExceptHandler (some (.Name xc np)) (some n) (b₀ :: suite) pos'] [] [] pos) Z := fun κ0 κ σ hn0 l hc0 o r De E => by
  obtain ⟨rfl, rfl, rfl, rfl, rfl⟩ := hY
  refine PS.w (L2N.ps_try_as (i := i) (Wout := fun _ _ _ _ => False) (ts := fun a cls d D σ H => ∀ (oe : Obj) (pn : List (Addr × Obj)), L2N.Zn cls d oe → (∃ vs, oe.data = .fields vs) → wSs (Y.X.suite a ((a, oe) :: pn)) (b₀ :: suite) D σ H)
    (tb := fun W D σ H => ∀ (pn : List (Addr × Obj)) (xe : Value → Shared → Prop), L2N.Takes (Y.X.tr pn xe) W → PassesOwn (model Y.X.prog Y.X.w) Y.X.A Y.X.env xe → wSs (Y.X.tr pn xe) [.Expr (.Call (.Name x p) (e :: es) [] pp) pe] D σ H) hst hf hN (ix_of hi) hln hc (fun u s' z => by obtain ⟨_, _, _, _, _, _, _, _, _, _, _, _, _, _, _, _, w⟩ := z; exact w.elim)
    (fun W pn xe tk po => ⟨fun pins s σ H D I q => q pn xe tk po pins s I⟩) (fun a oe cls d pn hz hd => ⟨fun pins s σ H D I q => q oe pn hz hd pins s I⟩)) ?_
  intro pn xe tk po
  refine PSs.w (pss_one ps_w) (PS.w (ps_expr pe_w hsw) ?_)
  refine PE.w (pe_callSD F hr (hg pn xe) hm hkp hb .nil (E := L2.WE _) (L2N.passAt tk) pa_w hdb he hpl) ((ha pn xe po).bind hc0 o r ⟨fun _ _ _ _ _ _ _ q => q.elim⟩ fun vs ws κ1 l1 o1 r1 g1 rws ⟨ew, ec⟩ => ?_)
  subst ew
  refine ⟨κ1, _, rfl, o1, by rw [List.append_nil]; exact rws, k, one, two, hk, rfl, fun κ' l' o' ec' => ?_⟩
  have le0 : κ0.le κ' := (l.trans l1).trans l'
  have rr : REnv Y.X.K κ' σ ρ := (r.le l1).le l'
  have hcc : κ'.c = c := ec'.trans ec
  -- the suite, in a world
  have go0 : ∀ (D0 : Addr), (k = 0 ∧ D0 = He.ga Y.X.K "BadLand") ∨ (k = 1 ∧ D0 = He.ga Y.X.K "BadMoment") → PySem.W.exmOne Y.X.K (.ref D0) (.ref C) = some true → wAs Y.X.K (.ref C) i (fun a cls d D σ H => ∀ (oe : Obj) (pn : List (Addr × Obj)), L2N.Zn cls d oe → (∃ vs, oe.data = .fields vs) → wSs (Y.X.suite a ((a, oe) :: pn)) (b₀ :: suite) D σ H) (fun _ _ _ _ => False) De (.ref D0) none σ κ'.H := fun D0 hD hx =>
    ⟨true, hx, fun _ a na oe pn2 hz hd => h0 D0 hD a oe pn2 hz hd κ0 κ' _ hn0 le0 hcc o' (rr.set (show RW Y.X.K κ'.I κ'.th (.im (.cls a)) (.ref a) from rfl)) _ E.un, fun z => Bool.noConfusion z⟩
  have go2 : ∀ (D0 : Addr) (ns : List Str) (l : List D) (vs : List V) (dx : Addr), (k = 2 ∧ D0 = He.ga Y.X.K "BadRules" ∧ ns = [("index" : Str)] ∧ l = [one]) ∨ (k = 3 ∧ D0 = He.ga Y.X.K "BadText" ∧ ns = [("word" : Str), ("line" : Str)] ∧ l = [two, one]) → PySem.W.exmOne Y.X.K (.ref D0) (.ref C) = some true → ns.length = vs.length → Rps Y.X.K κ'.I l vs → κ'.H dx = none →
      wAs Y.X.K (.ref C) i (fun a cls d D σ H => ∀ (oe : Obj) (pn : List (Addr × Obj)), L2N.Zn cls d oe → (∃ vs, oe.data = .fields vs) → wSs (Y.X.suite a ((a, oe) :: pn)) (b₀ :: suite) D σ H) (fun _ _ _ _ => False) De (.ref D0) (some dx) σ (upd κ'.H dx (.xd (ns.zip vs))) := fun D0 ns l vs dx hD hx hl rp hd0 => by
    obtain ⟨lc, oc⟩ := xd_cell (dx := dx) (ns := ns) o' hd0 hl rp
    refine ⟨true, hx, fun _ a na oe pn2 hz hd => ?_, fun z => Bool.noConfusion z⟩
    exact h2 D0 ns l hD a oe pn2 dx hz hd κ0 ⟨κ'.I, upd κ'.H dx (.xd (ns.zip vs)), κ'.th ++ [dx], κ'.c ++ [xdC Y.X.K dx ns l]⟩ _ hn0 (le0.trans lc) (by rw [hcc]) oc ((rr.le lc).set (show RW Y.X.K κ'.I (κ'.th ++ [dx]) (.im (.cls a)) (.ref a) from rfl)) _ E.un
  match k, hk, go0, go2 with
  | 0, _, go0, _ => exact go0 _ (.inl ⟨rfl, rfl⟩) x0
  | 1, _, go0, _ => exact go0 _ (.inr ⟨rfl, rfl⟩) x1
  | 2, _, _, go2 => exact fun v d hv hd => go2 _ ["index"] [one] [v] d (.inl ⟨rfl, rfl, rfl, rfl⟩) x2 rfl ⟨v, [], rfl, hv, rfl⟩ hd
  | 3, _, _, go2 => exact fun v u d hv hu hd => go2 _ ["word", "line"] [two, one] [u, v] d (.inr ⟨rfl, rfl, rfl, rfl⟩) x3 rfl ⟨u, [v], rfl, hu, v, [], rfl, hv, rfl⟩ hd
  | _ + 4, h, _, _ => exact absurd h (by omega)
end
end WL
/-! The mathematics of the clocks: rules as data, what they tell. -/
namespace WL
open PySem PySem.Spec PyProof.Rows L2
/-- plain data, at most n deep, no list of it long -/
def Pl : Nat → D → Prop
  | _, .non => True
  | _, .bl _ => True
  | _, .int _ => True
  | _, .str x => PyData.strOk x = true
  | n + 1, .lst l => l.length ≤ 1000 ∧ ∀ x ∈ l, Pl n x
  | n + 1, .tup l => l.length ≤ 1000 ∧ ∀ x ∈ l, Pl n x
  | _, _ => False
theorem Pl.pn : ∀ {n : Nat} {d : D}, Pl n d → Pn n d
  | _, .non, _ => by simp [Pn]
  | _, .bl _, _ => by simp [Pn]
  | _, .int _, _ => by simp [Pn]
  | _, .str x, h => by simpa [Pn, Pl] using h
  | 0, .lst l, h => by simp [Pl] at h
  | 0, .tup l, h => by simp [Pl] at h
  | n + 1, .lst l, h => fun x hx => Pl.pn (h.2 x hx)
  | n + 1, .tup l, h => fun x hx => Pl.pn (h.2 x hx)
  | _, .scr _, h => by simp [Pl] at h
  | _, .obj _ _ _, h => by simp [Pl] at h
  | _, .dic _ _, h => by simp [Pl] at h
  | _, .dct _ _, h => by simp [Pl] at h
  | _, .ty _, h => by simp [Pl] at h
  | _, .cls _, h => by simp [Pl] at h
theorem Pl.up : ∀ {n : Nat} {d : D}, Pl n d → Pl (n + 1) d
  | _, .non, _ => by simp [Pl]
  | _, .bl _, _ => by simp [Pl]
  | _, .int _, _ => by simp [Pl]
  | _, .str x, h => by simpa [Pl] using h
  | 0, .lst l, h => by simp [Pl] at h
  | 0, .tup l, h => by simp [Pl] at h
  | n + 1, .lst l, h => ⟨h.1, fun x hx => Pl.up (h.2 x hx)⟩
  | n + 1, .tup l, h => ⟨h.1, fun x hx => Pl.up (h.2 x hx)⟩
  | _, .scr _, h => by simp [Pl] at h
  | _, .obj _ _ _, h => by simp [Pl] at h
  | _, .dic _ _, h => by simp [Pl] at h
  | _, .dct _ _, h => by simp [Pl] at h
  | _, .ty _, h => by simp [Pl] at h
  | _, .cls _, h => by simp [Pl] at h
theorem Pl.mono {n m : Nat} {d : D} (h : Pl n d) (l : n ≤ m) : Pl m d := by
  induction l with
  | refl => exact h
  | step _ ih => exact ih.up
theorem Pl.tyn {n : Nat} {d : D} (h : Pl n d) : ∃ a, d.tyn = some a := by
  cases d <;> first | exact ⟨_, rfl⟩ | (cases n <;> exact h.elim)
/-! ### rules -/
inductive Tk where | all | one (n : Int) | but (n : Int)
inductive Of where | times (n : Int) | hours | parts
structure Ru where
  h : Tk
  p : Tk
  low : Bool
  o : Of
def Tk.d (word : Str) : Tk → D
  | .all => .tup [.str "all"]
  | .one n => .tup [.str word, .int n]
  | .but n => .tup [.str "but", .int n]
def Of.d : Of → D
  | .times n => .tup [.str "times", .int n]
  | .hours => .tup [.str "hours"]
  | .parts => .tup [.str "parts"]
def bellS (b : Bool) : Str := if b then "low" else "high"
def Ru.d (r : Ru) : D := .tup [r.h.d "hour", r.p.d "part", .str (bellS r.low), r.o.d]
def Tk.ok : Tk → Prop
  | .all => True
  | .one n => -2 ≤ n ∧ n ≤ 1
  | .but n => -2 ≤ n ∧ n ≤ 1
def Of.ok : Of → Prop
  | .times n => 1 ≤ n ∧ n ≤ 3
  | .hours => True
  | .parts => True
def Ru.ok (r : Ru) : Prop := r.h.ok ∧ r.p.ok ∧ r.o.ok
def Tk.has (t : Tk) (place many : Int) : Bool := match t with
  | .all => true
  | .one n => decide (n % many = place)
  | .but n => !decide (n % many = place)
/-! ### what a clock takes for a rule -/
def Of.num (o : Of) (h p : Int) : Int := match o with
  | .times n => n
  | .hours => 1 + h
  | .parts => 1 + p
end WL
/-! What a clock strikes. -/
namespace WL
open PySem PySem.Spec PyProof.Rows L2
/-- of few bits -/
def Wid (i : Int) : Prop := -(2 ^ 250) ≤ i ∧ i ≤ 2 ^ 250
def pairD (lo : Bool) (n : Int) : D := .tup [.str (bellS lo), .int n]
end WL
namespace WL
open PySem PySem.Spec PyProof.Rows L2
theorem wid_of {i : Int} (h1 : -(10 ^ 75) ≤ i) (h2 : i ≤ 10 ^ 75) : Wid i := by
  unfold Wid
  have h : (10 : Int) ^ 75 ≤ 2 ^ 250 := by decide
  omega
end WL
/-! What the laws draw. -/
namespace WL
open PySem PySem.Spec PyProof.Rows L2
/-- the list of a law's draws -/
structure Dr where
  seed : Int
  cur : Int
  rest : List Int
def Dr.l (d : Dr) : List D := .int d.seed :: .int d.cur :: d.rest.map D.int
def Dr.ok (d : Dr) : Prop := d.rest.length ≤ 1000
theorem Dr.len (d : Dr) : d.l.length = d.rest.length + 2 := by simp [Dr.l]
theorem ixN_0 {n : Nat} : L2.ixN (n + 1) 0 = some 0 := by
  have h : (0 : Int) < (n : Int) + 1 := by omega
  simp [L2.ixN, h]
theorem ixN_1 {n : Nat} : L2.ixN (n + 1 + 1) 1 = some 1 := by
  have h : (1 : Int) < (n : Int) + 1 + 1 := by omega
  simp [L2.ixN, h]
theorem seq_2 {n : Nat} : seqIndex? 2 (n + 1 + 1 + 1) = some 2 := by
  have h : (2 : Int) < (n : Int) + 1 + 1 + 1 := by omega
  simp [seqIndex?, h]
theorem atI_nat {α : Type} {l : List α} {k : Nat} (h : k < l.length) : L2.atI l (k : Int) = some l[k] := by
  have h2 : (k : Int) < (l.length : Int) := by omega
  simp [L2.atI, L2.ixN, h2, h]
end WL
/-! What the laws compute of a day. -/
namespace WL
open PySem PySem.Spec PyProof.Rows L2
def placeOf (n m : Int) : Int := if 0 ≤ n then n else m + n
theorem place_mod {n m : Int} (hn : -2 ≤ n ∧ n ≤ 1) (hm : 2 ≤ m) : placeOf n m = n % m := by
  unfold placeOf
  by_cases h : 0 ≤ n
  · rw [if_pos h, Int.emod_eq_of_lt h (by omega)]
  · rw [if_neg h, ← Int.add_emod_left, Int.emod_eq_of_lt (by omega) (by omega)]
/-! ### rows of a day -/
/-! ### a dict that is set -/
end WL
/-! Far moments. -/
namespace WL
open PySem PySem.Spec PyProof.Rows L2
theorem log_wid {i : Int} (h : Wid i) : i.natAbs.log2 < 251 := by
  unfold Wid at h
  have h2 : i.natAbs ≤ 2 ^ 250 := by omega
  by_cases hz : i.natAbs = 0
  · rw [hz]; decide
  · exact (Nat.log2_lt hz).mpr (Nat.lt_of_le_of_lt h2 (Nat.pow_lt_pow_right (by decide) (by decide)))
theorem cmulW_of {i j : Int} (h1 : Wid i) (h2 : Wid j) : CMulW i j := by
  have a := log_wid h1
  have b := log_wid h2
  unfold CMulW
  omega
end WL
/-! Strokes of a day, ahead of a moment. -/
namespace WL
open PySem PySem.Spec PyProof.Rows L2
def sndD (s : List (Bool × Int)) : D := .tup (s.map fun x => pairD x.1 x.2)
/-! ### sums -/
/-! ### ahead of a moment -/
end WL
/-! Lands up to ten are enough. -/
namespace WL
open PySem PySem.Spec PyProof.Rows L2
/-- hours (or parts) of one sort, in days of two lengths -/
def SameC (a h a' h' : Int) : Prop := ∀ n : Int, -2 ≤ n → n ≤ 1 → (placeOf n a = h ↔ placeOf n a' = h')
theorem SameC.has {a h a' h' : Int} (s : SameC a h a' h') (ha : 2 ≤ a) (ha' : 2 ≤ a') {t : Tk} (ht : t.ok) : t.has h a = t.has h' a' := by
  cases t with
  | all => rfl
  | one n =>
    have hn : -2 ≤ n ∧ n ≤ 1 := ht
    show decide (n % a = h) = decide (n % a' = h')
    rw [← place_mod hn ha, ← place_mod hn ha']
    exact decide_eq_decide.mpr (s n hn.1 hn.2)
  | but n =>
    have hn : -2 ≤ n ∧ n ≤ 1 := ht
    show (!decide (n % a = h)) = !decide (n % a' = h')
    rw [← place_mod hn ha, ← place_mod hn ha']
    congr 1
    exact decide_eq_decide.mpr (s n hn.1 hn.2)
theorem SameC.symm {a h a' h' : Int} (s : SameC a h a' h') : SameC a' h' a h := fun n h1 h2 => (s n h1 h2).symm
/-! ### hours for parts -/
def Of.tr : Of → Of
  | .times n => .times n
  | .hours => .parts
  | .parts => .hours
def Ru.tr (r : Ru) : Ru := ⟨r.p, r.h, r.low, r.o.tr⟩
end WL
/-! Lands in their order; the least land that parts two clocks. -/
/-! What the walks of the deciding ask. -/
/-! Needless rules, rules that change places. -/
/-! What was heard: the moments from which a row is heard. -/
namespace WL
open PySem PySem.Spec PyProof.Rows L2
abbrev Snd := List (Bool × Int)
end WL
/-! A listener: where it can stand. -/
/-! How long one must listen: moments in groups by what was heard. -/
/-! What was heard, any values; the cells of the groups. -/
namespace WL
open PySem PySem.Spec PyProof.Rows L2
/-- a value that was heard -/
inductive HV where | snd (s : Snd) | non | nil | low | lowT
def HV.d : HV → D
  | .snd s => sndD s
  | .non => .non
  | .nil => .lst []
  | .low => .str "low"
  | .lowT => .tup [.tup [.str "low", .bl true]]
def HV.ok : HV → Prop
  | .snd s => s.length ≤ 100
  | _ => True
/-! ### cells -/
end WL
/-! Rules as words, clocks as texts. -/
namespace WL
open PySem PySem.Spec PyProof.Rows L2
def numS (n : Int) : Str := Str.ofString (toString n)
def Tk.ws (x : Str) : Tk → List Str
  | .all => ["all"]
  | .one n => [x, numS n]
  | .but n => ["but", numS n]
def Of.w : Of → Str
  | .times n => numS n
  | .hours => "hours"
  | .parts => "parts"
def Ru.ws (r : Ru) : List Str := r.h.ws "hour" ++ r.p.ws "part" ++ [bellS r.low, r.o.w]
def Ru.line (r : Ru) : Str := Txt.join " " r.ws
def Ru.row (r : Ru) : Str := r.line ++ "\n"
/-! ### and back -/
/-! ### as data -/
end WL
/-! The first land in which two clocks meet, and the first one in which they don't, as found on the way. -/
/-! Strokes of a day by sorts of hours and parts; the form. -/
namespace WL
open PySem PySem.Spec PyProof.Rows L2
/-! ### sums over places -/
/-! ### what is struck, counted -/
def tC (z : List (Bool × Of)) : Int := (z.map fun x => match x.2 with | .times n => n | _ => 0).sum
def hC (z : List (Bool × Of)) : Int := (z.map fun x => match x.2 with | .hours => 1 | _ => 0).sum
/-! ### a day's strokes -/
/-! ### for the walk -/
end WL
/-! The form of a clock: twice the strokes of a day, in h and q. -/
namespace WL
open PySem PySem.Spec PyProof.Rows L2
abbrev P3 := Int × Int × Int
def P3.l (p : P3) : List Int := [p.1, p.2.1, p.2.2]
def P3.at_ (p : P3) (i : Nat) : Int := match i with
  | 0 => p.1
  | 1 => p.2.1
  | _ => p.2.2
/-! ### for the walk -/
end WL
/-! A form's numbers are small. -/
/-! What holds in all lands. -/
/-! Equal and of the same kind at every level, of any two plain values. -/
namespace WL
open PySem PySem.Spec PyProof.Rows L2
/-- whether the first is equal to the second and of its kind -/
def leq : Nat → D → D → Bool
  | _, x, .non => x.isN
  | _, .bl a, .bl b => decide (a = b)
  | _, .int i, .int j => decide (i = j)
  | _, .str s, .str t => decide (s = t)
  | n + 1, .tup l, .tup m => decide (l.length = m.length) && (List.zipWith (leq n) l m).all id
  | n + 1, .lst l, .lst m => decide (l.length = m.length) && (List.zipWith (leq n) l m).all id
  | _, _, _ => false
theorem leq_non {n : Nat} {x : D} : leq n x .non = x.isN := by cases n <;> cases x <;> rfl
theorem zipAll {α β : Type} {f : α → β → Bool} : ∀ {l : List α} {m : List β}, (List.zipWith f l m).all id = true ↔ ∀ (i : Nat) (a : α) (b : β), l[i]? = some a → m[i]? = some b → f a b = true
  | [], m => by simp
  | a :: l, [] => by simp
  | a :: l, b :: m => by
    rw [List.zipWith_cons_cons, List.all_cons, Bool.and_eq_true, zipAll]
    constructor
    · rintro ⟨h0, h⟩ i
      cases i with
      | zero => intro x y hx hy; simp only [List.getElem?_cons_zero, Option.some.injEq] at hx hy; subst hx; subst hy; exact h0
      | succ i => intro x y hx hy; simp only [List.getElem?_cons_succ] at hx hy; exact h i x y hx hy
    · intro h
      exact ⟨h 0 a b rfl rfl, fun i x y hx hy => h (i + 1) x y (by simpa using hx) (by simpa using hy)⟩
theorem leq_refl : ∀ {n : Nat} {d : D}, Pl n d → leq n d d = true
  | _, .non, _ => by unfold leq; rfl
  | _, .bl _, _ => by simp [leq]
  | _, .int _, _ => by simp [leq]
  | _, .str x, _ => by simp [leq]
  | 0, .lst l, h => by simp [Pl] at h
  | 0, .tup l, h => by simp [Pl] at h
  | n + 1, .lst l, h => by
    unfold leq
    simp only [decide_true, Bool.true_and]
    exact zipAll.mpr fun i a b ha hb => by
      rw [ha] at hb; cases hb
      exact leq_refl (h.2 a (List.mem_of_getElem? ha))
  | n + 1, .tup l, h => by
    unfold leq
    simp only [decide_true, Bool.true_and]
    exact zipAll.mpr fun i a b ha hb => by
      rw [ha] at hb; cases hb
      exact leq_refl (h.2 a (List.mem_of_getElem? ha))
  | _, .scr _, h => by simp [Pl] at h
  | _, .obj _ _ _, h => by simp [Pl] at h
  | _, .dic _ _, h => by simp [Pl] at h
  | _, .dct _ _, h => by simp [Pl] at h
  | _, .ty _, h => by simp [Pl] at h
  | _, .cls _, h => by simp [Pl] at h
/-! ### a row heard from a moment -/
/-! ### all lands and moments that fit -/
end WL
namespace WL
open PySem PySem.Spec PyProof.Rows L2
def top (i : Nat) : Stmt := PySem.Challenge.pw_hourbells_k13_errors_apart.main.body.getD i (.Pass ⟨0, 0, 0, 0⟩)
abbrev s_BadRules___init__ : Stmt := inClass (top 2) 0
abbrev N_BadRules___init__ : List Str := [("self" : Str), ("index" : Str), ("__class__" : Str)]
abbrev P_BadRules___init__ : List Str := [("self" : Str), ("index" : Str)]
theorem sc_BadRules___init__ : NdefX.NScope N_BadRules___init__ P_BadRules___init__ ["__class__"] (defScope s_BadRules___init__) := NdefX.nscope_by (by decide +kernel)
abbrev s_BadText___init__ : Stmt := inClass (top 5) 0
abbrev N_BadText___init__ : List Str := [("self" : Str), ("line" : Str), ("word" : Str), ("__class__" : Str)]
abbrev P_BadText___init__ : List Str := [("self" : Str), ("line" : Str), ("word" : Str)]
theorem sc_BadText___init__ : NdefX.NScope N_BadText___init__ P_BadText___init__ ["__class__"] (defScope s_BadText___init__) := NdefX.nscope_by (by decide +kernel)
abbrev s__law_random : Stmt := top 7
abbrev N__law_random : List Str := [("_law_script" : Str), ("_law_salt" : Str), ("_law_seed" : Str), ("_law_cell" : Str)]
abbrev P__law_random : List Str := [("_law_script" : Str), ("_law_salt" : Str)]
theorem sc__law_random : FnScope N__law_random P__law_random (defScope s__law_random) := ⟨rfl, rfl, rfl, by decide +kernel, rfl, by decide +kernel, by decide +kernel⟩
abbrev s__law_below : Stmt := top 8
abbrev N__law_below : List Str := [("_law_d" : Str), ("_law_size" : Str), ("_law_result" : Str)]
abbrev P__law_below : List Str := [("_law_d" : Str), ("_law_size" : Str)]
theorem sc__law_below : FnScope N__law_below P__law_below (defScope s__law_below) := ⟨rfl, rfl, rfl, by decide +kernel, rfl, by decide +kernel, by decide +kernel⟩
abbrev s__law_pick : Stmt := top 9
abbrev N__law_pick : List Str := [("_law_d" : Str), ("_law_items" : Str)]
abbrev P__law_pick : List Str := [("_law_d" : Str), ("_law_items" : Str)]
theorem sc__law_pick : FnScope N__law_pick P__law_pick (defScope s__law_pick) := ⟨rfl, rfl, rfl, by decide +kernel, rfl, by decide +kernel, by decide +kernel⟩
abbrev s__law_equal : Stmt := top 10
abbrev N__law_equal : List Str := [("_law_actual" : Str), ("_law_expected" : Str), ("_law_key" : Str), ("_law_k" : Str)]
abbrev P__law_equal : List Str := [("_law_actual" : Str), ("_law_expected" : Str)]
theorem sc__law_equal : FnScope N__law_equal P__law_equal (defScope s__law_equal) := ⟨rfl, rfl, rfl, by decide +kernel, rfl, by decide +kernel, by decide +kernel⟩
abbrev s__law_thrown : Stmt := top 11
abbrev N__law_thrown : List Str := [("_law_k" : Str), ("_law_one" : Str), ("_law_two" : Str)]
abbrev P__law_thrown : List Str := [("_law_k" : Str), ("_law_one" : Str), ("_law_two" : Str)]
theorem sc__law_thrown : FnScope N__law_thrown P__law_thrown (defScope s__law_thrown) := ⟨rfl, rfl, rfl, by decide +kernel, rfl, by decide +kernel, by decide +kernel⟩
abbrev s__law_fields : Stmt := top 12
abbrev N__law_fields : List Str := [("_law_k" : Str), ("_law_e" : Str)]
abbrev P__law_fields : List Str := [("_law_k" : Str), ("_law_e" : Str)]
theorem sc__law_fields : FnScope N__law_fields P__law_fields (defScope s__law_fields) := ⟨rfl, rfl, rfl, by decide +kernel, rfl, by decide +kernel, by decide +kernel⟩
abbrev s_law : Stmt := top 13
abbrev N_law : List Str := [("_law_script" : Str), ("_law_d" : Str), ("_law_k" : Str), ("_law_one" : Str), ("_law_two" : Str), ("_law_due" : Str), ("_law_good" : Str), ("_law_e" : Str), ("_law_kinds" : Str), ("_law_other" : Str)]
abbrev P_law : List Str := [("_law_script" : Str)]
theorem sc_law : FnScope N_law P_law (defScope s_law) := ⟨rfl, rfl, rfl, by decide +kernel, rfl, by decide +kernel, by decide +kernel⟩
def dd__law_random : He.DefD := ⟨("_law_random", none), "_law_random", "_law_random", defArgs s__law_random, defBody s__law_random, defScope s__law_random, [], []⟩
def dd__law_below : He.DefD := ⟨("_law_below", none), "_law_below", "_law_below", defArgs s__law_below, defBody s__law_below, defScope s__law_below, [], []⟩
def dd__law_pick : He.DefD := ⟨("_law_pick", none), "_law_pick", "_law_pick", defArgs s__law_pick, defBody s__law_pick, defScope s__law_pick, [], []⟩
def dd__law_equal : He.DefD := ⟨("_law_equal", none), "_law_equal", "_law_equal", defArgs s__law_equal, defBody s__law_equal, defScope s__law_equal, [], []⟩
def dd__law_thrown : He.DefD := ⟨("_law_thrown", none), "_law_thrown", "_law_thrown", defArgs s__law_thrown, defBody s__law_thrown, defScope s__law_thrown, [], []⟩
def dd__law_fields : He.DefD := ⟨("_law_fields", none), "_law_fields", "_law_fields", defArgs s__law_fields, defBody s__law_fields, defScope s__law_fields, [], []⟩
def dd_law : He.DefD := ⟨("law", none), "law", "law", defArgs s_law, defBody s_law, defScope s_law, [], []⟩
def fnL : List He.DefD := [dd__law_random, dd__law_below, dd__law_pick, dd__law_equal, dd__law_thrown, dd__law_fields, dd_law]
def sd_BadRules___init__ : SupD := { at_ := fun K => He.ma K (He.ga K "BadRules") "__init__", name := "__init__", qual := "BadRules.__init__", params := defArgs s_BadRules___init__, body := defBody s_BadRules___init__, scope := defScope s_BadRules___init__ }
def sd_BadText___init__ : SupD := { at_ := fun K => He.ma K (He.ga K "BadText") "__init__", name := "__init__", qual := "BadText.__init__", params := defArgs s_BadText___init__, body := defBody s_BadText___init__, scope := defScope s_BadText___init__ }
def sdL : List SupD := [sd_BadRules___init__, sd_BadText___init__]
def faL : List He.Fa := [.glo "_law_random", .glo "_law_below", .glo "_law_pick", .glo "_law_equal", .glo "_law_thrown", .glo "_law_fields", .glo "law", .free "len", .free "all", .free "abs", .free "isinstance", .free "sorted", .free "range", .free "tuple", .free "list", .free "int", .free "str", .free "bool", .free "dict", .free "ValueError", .glo "BellError", .glo "BadRules", .glo "BadLand", .glo "BadMoment", .glo "BadText", .exc "BellError", .exc "BadLand", .exc "BadMoment", .exm "BellError" "BellError" true, .exm "BellError" "BadRules" false, .exm "BellError" "BadLand" false, .exm "BellError" "BadMoment" false, .exm "BellError" "BadText" false, .exm "BadRules" "BellError" true, .exm "BadRules" "BadRules" true, .exm "BadRules" "BadLand" false, .exm "BadRules" "BadMoment" false, .exm "BadRules" "BadText" false, .exm "BadLand" "BellError" true, .exm "BadLand" "BadRules" false, .exm "BadLand" "BadLand" true, .exm "BadLand" "BadMoment" false, .exm "BadLand" "BadText" false, .exm "BadMoment" "BellError" true, .exm "BadMoment" "BadRules" false, .exm "BadMoment" "BadLand" false, .exm "BadMoment" "BadMoment" true, .exm "BadMoment" "BadText" false, .exm "BadText" "BellError" true, .exm "BadText" "BadRules" false, .exm "BadText" "BadLand" false, .exm "BadText" "BadMoment" false, .exm "BadText" "BadText" true]
def exL (K : PySem.W.Frag) : Bool := [xclB K (He.ga K "BadRules") [("index" : Str)], supB K (He.ga K "BadRules") sd_BadRules___init__, xclB K (He.ga K "BadText") [("line" : Str), ("word" : Str)], supB K (He.ga K "BadText") sd_BadText___init__, xisB K (He.ga K "BadRules"), decide (PySem.W.kitOne K (.ref (He.ga K "BadRules")) (.ref (He.ga K "BadRules")) = some true), decide (PySem.W.kitOne K (.ref (He.ga K "BadRules")) (.ref (He.ga K "BadLand")) = some false), decide (PySem.W.kitOne K (.ref (He.ga K "BadRules")) (.ref (He.ga K "BadMoment")) = some false), decide (PySem.W.kitOne K (.ref (He.ga K "BadRules")) (.ref (He.ga K "BadText")) = some false), decide (PySem.W.kitOne K (.ref (He.ga K "BadRules")) (.type "ValueError") = some true), xisB K (He.ga K "BadLand"), decide (PySem.W.kitOne K (.ref (He.ga K "BadLand")) (.ref (He.ga K "BadRules")) = some false), decide (PySem.W.kitOne K (.ref (He.ga K "BadLand")) (.ref (He.ga K "BadLand")) = some true), decide (PySem.W.kitOne K (.ref (He.ga K "BadLand")) (.ref (He.ga K "BadMoment")) = some false), decide (PySem.W.kitOne K (.ref (He.ga K "BadLand")) (.ref (He.ga K "BadText")) = some false), decide (PySem.W.kitOne K (.ref (He.ga K "BadLand")) (.type "ValueError") = some true), xisB K (He.ga K "BadMoment"), decide (PySem.W.kitOne K (.ref (He.ga K "BadMoment")) (.ref (He.ga K "BadRules")) = some false), decide (PySem.W.kitOne K (.ref (He.ga K "BadMoment")) (.ref (He.ga K "BadLand")) = some false), decide (PySem.W.kitOne K (.ref (He.ga K "BadMoment")) (.ref (He.ga K "BadMoment")) = some true), decide (PySem.W.kitOne K (.ref (He.ga K "BadMoment")) (.ref (He.ga K "BadText")) = some false), decide (PySem.W.kitOne K (.ref (He.ga K "BadMoment")) (.type "ValueError") = some true), xisB K (He.ga K "BadText"), decide (PySem.W.kitOne K (.ref (He.ga K "BadText")) (.ref (He.ga K "BadRules")) = some false), decide (PySem.W.kitOne K (.ref (He.ga K "BadText")) (.ref (He.ga K "BadLand")) = some false), decide (PySem.W.kitOne K (.ref (He.ga K "BadText")) (.ref (He.ga K "BadMoment")) = some false), decide (PySem.W.kitOne K (.ref (He.ga K "BadText")) (.ref (He.ga K "BadText")) = some true), decide (PySem.W.kitOne K (.ref (He.ga K "BadText")) (.type "ValueError") = some true)].all id
/-- what is known of the text behind the top -/
structure Tx (K : PySem.W.Frag) (mg : Str → Option Value) : Prop where
  ex : ∃ (w : World) (h : Heap), K.In h ∧ h.Ns mainGlobals mg ∧ SaysZ faL fnL sdL exL w h K
section
variable {K : PySem.W.Frag} {mg : Str → Option Value}
theorem Tx.fact (T : Tx K mg) {f : He.Fa} (i : Nat) (h : faL[i]? = some f) : f.ok K = true := by
  obtain ⟨w, h, X, G, c⟩ := T.ex
  exact c.t.d.fact i ‹_›
theorem Tx.more (T : Tx K mg) : exL K = true := by
  obtain ⟨w, h, X, G, c⟩ := T.ex
  exact c.more
theorem Tx.def_ (T : Tx K mg) {d : He.DefD} (i : Nat) (h : fnL[i]? = some d) : ∃ fd, FunD K d.name d.qual d.params d.body d.scope (d.dvs K) (d.kws K) (He.fAd K d.at_) fd := by
  obtain ⟨w, h, X, G, c⟩ := T.ex
  exact c.t.d.def_ i ‹_›
theorem Tx.f__law_random (T : Tx K mg) : ∃ f fd, mg "_law_random" = some (.ref f) ∧ Fun K "_law_random" "_law_random" s__law_random f fd := by
  obtain ⟨fd, F⟩ := T.def_ (d := dd__law_random) 0 rfl
  obtain ⟨w, h, X, G, c⟩ := T.ex
  exact ⟨_, fd, He.glo_ok X G (T.fact 0 rfl), funD_fun F⟩
theorem Tx.f__law_below (T : Tx K mg) : ∃ f fd, mg "_law_below" = some (.ref f) ∧ Fun K "_law_below" "_law_below" s__law_below f fd := by
  obtain ⟨fd, F⟩ := T.def_ (d := dd__law_below) 1 rfl
  obtain ⟨w, h, X, G, c⟩ := T.ex
  exact ⟨_, fd, He.glo_ok X G (T.fact 1 rfl), funD_fun F⟩
theorem Tx.f__law_pick (T : Tx K mg) : ∃ f fd, mg "_law_pick" = some (.ref f) ∧ Fun K "_law_pick" "_law_pick" s__law_pick f fd := by
  obtain ⟨fd, F⟩ := T.def_ (d := dd__law_pick) 2 rfl
  obtain ⟨w, h, X, G, c⟩ := T.ex
  exact ⟨_, fd, He.glo_ok X G (T.fact 2 rfl), funD_fun F⟩
theorem Tx.f__law_equal (T : Tx K mg) : ∃ f fd, mg "_law_equal" = some (.ref f) ∧ Fun K "_law_equal" "_law_equal" s__law_equal f fd := by
  obtain ⟨fd, F⟩ := T.def_ (d := dd__law_equal) 3 rfl
  obtain ⟨w, h, X, G, c⟩ := T.ex
  exact ⟨_, fd, He.glo_ok X G (T.fact 3 rfl), funD_fun F⟩
theorem Tx.f__law_thrown (T : Tx K mg) : ∃ f fd, mg "_law_thrown" = some (.ref f) ∧ Fun K "_law_thrown" "_law_thrown" s__law_thrown f fd := by
  obtain ⟨fd, F⟩ := T.def_ (d := dd__law_thrown) 4 rfl
  obtain ⟨w, h, X, G, c⟩ := T.ex
  exact ⟨_, fd, He.glo_ok X G (T.fact 4 rfl), funD_fun F⟩
theorem Tx.f__law_fields (T : Tx K mg) : ∃ f fd, mg "_law_fields" = some (.ref f) ∧ Fun K "_law_fields" "_law_fields" s__law_fields f fd := by
  obtain ⟨fd, F⟩ := T.def_ (d := dd__law_fields) 5 rfl
  obtain ⟨w, h, X, G, c⟩ := T.ex
  exact ⟨_, fd, He.glo_ok X G (T.fact 5 rfl), funD_fun F⟩
theorem Tx.n_len (T : Tx K mg) : mg "len" = none := by
  obtain ⟨w, h, X, G, c⟩ := T.ex
  exact He.free_ok X G (T.fact 7 rfl)
theorem b_len : bootBuiltins "len" = some (.builtin "len") := by decide +kernel
theorem Tx.n_all (T : Tx K mg) : mg "all" = none := by
  obtain ⟨w, h, X, G, c⟩ := T.ex
  exact He.free_ok X G (T.fact 8 rfl)
theorem b_all : bootBuiltins "all" = some (.builtin "all") := by decide +kernel
theorem Tx.n_abs (T : Tx K mg) : mg "abs" = none := by
  obtain ⟨w, h, X, G, c⟩ := T.ex
  exact He.free_ok X G (T.fact 9 rfl)
theorem b_abs : bootBuiltins "abs" = some (.builtin "abs") := by decide +kernel
theorem Tx.n_isinstance (T : Tx K mg) : mg "isinstance" = none := by
  obtain ⟨w, h, X, G, c⟩ := T.ex
  exact He.free_ok X G (T.fact 10 rfl)
theorem b_isinstance : bootBuiltins "isinstance" = some (.builtin "isinstance") := by decide +kernel
theorem Tx.n_sorted (T : Tx K mg) : mg "sorted" = none := by
  obtain ⟨w, h, X, G, c⟩ := T.ex
  exact He.free_ok X G (T.fact 11 rfl)
theorem b_sorted : bootBuiltins "sorted" = some (.builtin "sorted") := by decide +kernel
theorem Tx.n_range (T : Tx K mg) : mg "range" = none := by
  obtain ⟨w, h, X, G, c⟩ := T.ex
  exact He.free_ok X G (T.fact 12 rfl)
theorem b_range : bootBuiltins "range" = some (.type "range") := by decide +kernel
theorem Tx.n_tuple (T : Tx K mg) : mg "tuple" = none := by
  obtain ⟨w, h, X, G, c⟩ := T.ex
  exact He.free_ok X G (T.fact 13 rfl)
theorem b_tuple : bootBuiltins "tuple" = some (.type "tuple") := by decide +kernel
theorem Tx.n_list (T : Tx K mg) : mg "list" = none := by
  obtain ⟨w, h, X, G, c⟩ := T.ex
  exact He.free_ok X G (T.fact 14 rfl)
theorem b_list : bootBuiltins "list" = some (.type "list") := by decide +kernel
theorem Tx.n_int (T : Tx K mg) : mg "int" = none := by
  obtain ⟨w, h, X, G, c⟩ := T.ex
  exact He.free_ok X G (T.fact 15 rfl)
theorem b_int : bootBuiltins "int" = some (.type "int") := by decide +kernel
theorem Tx.n_str (T : Tx K mg) : mg "str" = none := by
  obtain ⟨w, h, X, G, c⟩ := T.ex
  exact He.free_ok X G (T.fact 16 rfl)
theorem b_str : bootBuiltins "str" = some (.type "str") := by decide +kernel
theorem Tx.n_bool (T : Tx K mg) : mg "bool" = none := by
  obtain ⟨w, h, X, G, c⟩ := T.ex
  exact He.free_ok X G (T.fact 17 rfl)
theorem b_bool : bootBuiltins "bool" = some (.type "bool") := by decide +kernel
theorem Tx.n_dict (T : Tx K mg) : mg "dict" = none := by
  obtain ⟨w, h, X, G, c⟩ := T.ex
  exact He.free_ok X G (T.fact 18 rfl)
theorem b_dict : bootBuiltins "dict" = some (.type "dict") := by decide +kernel
theorem Tx.n_ValueError (T : Tx K mg) : mg "ValueError" = none := by
  obtain ⟨w, h, X, G, c⟩ := T.ex
  exact He.free_ok X G (T.fact 19 rfl)
theorem b_ValueError : bootBuiltins "ValueError" = some (.type "ValueError") := by decide +kernel
theorem Tx.e_BellError (T : Tx K mg) : ExcC K mg "BellError" (He.ga K "BellError") := by
  obtain ⟨w, h, X, G, c⟩ := T.ex
  exact excC_of (He.glo_ok X G (T.fact 20 rfl)) (T.fact 25 rfl)
theorem Tx.g_BellError (T : Tx K mg) : mg "BellError" = some (.ref (He.ga K "BellError")) := by
  obtain ⟨w, h, X, G, c⟩ := T.ex
  exact He.glo_ok X G (T.fact 20 rfl)
theorem Tx.x_BadRules_BellError (T : Tx K mg) : PySem.W.exmOne K (.ref (He.ga K "BadRules")) (.ref (He.ga K "BellError")) = some true := of_decide_eq_true (T.fact 33 rfl)
theorem Tx.g_BadRules (T : Tx K mg) : mg "BadRules" = some (.ref (He.ga K "BadRules")) := by
  obtain ⟨w, h, X, G, c⟩ := T.ex
  exact He.glo_ok X G (T.fact 21 rfl)
theorem Tx.e_BadLand (T : Tx K mg) : ExcC K mg "BadLand" (He.ga K "BadLand") := by
  obtain ⟨w, h, X, G, c⟩ := T.ex
  exact excC_of (He.glo_ok X G (T.fact 22 rfl)) (T.fact 26 rfl)
theorem Tx.x_BadLand_BellError (T : Tx K mg) : PySem.W.exmOne K (.ref (He.ga K "BadLand")) (.ref (He.ga K "BellError")) = some true := of_decide_eq_true (T.fact 38 rfl)
theorem Tx.g_BadLand (T : Tx K mg) : mg "BadLand" = some (.ref (He.ga K "BadLand")) := by
  obtain ⟨w, h, X, G, c⟩ := T.ex
  exact He.glo_ok X G (T.fact 22 rfl)
theorem Tx.e_BadMoment (T : Tx K mg) : ExcC K mg "BadMoment" (He.ga K "BadMoment") := by
  obtain ⟨w, h, X, G, c⟩ := T.ex
  exact excC_of (He.glo_ok X G (T.fact 23 rfl)) (T.fact 27 rfl)
theorem Tx.x_BadMoment_BellError (T : Tx K mg) : PySem.W.exmOne K (.ref (He.ga K "BadMoment")) (.ref (He.ga K "BellError")) = some true := of_decide_eq_true (T.fact 43 rfl)
theorem Tx.g_BadMoment (T : Tx K mg) : mg "BadMoment" = some (.ref (He.ga K "BadMoment")) := by
  obtain ⟨w, h, X, G, c⟩ := T.ex
  exact He.glo_ok X G (T.fact 23 rfl)
theorem Tx.x_BadText_BellError (T : Tx K mg) : PySem.W.exmOne K (.ref (He.ga K "BadText")) (.ref (He.ga K "BellError")) = some true := of_decide_eq_true (T.fact 48 rfl)
theorem Tx.g_BadText (T : Tx K mg) : mg "BadText" = some (.ref (He.ga K "BadText")) := by
  obtain ⟨w, h, X, G, c⟩ := T.ex
  exact He.glo_ok X G (T.fact 24 rfl)
theorem Tx.xi_BadRules (T : Tx K mg) : L2.ExcC K (He.ga K "BadRules") := xisB_ok (List.all_eq_true.mp (show ([xclB K (He.ga K "BadRules") [("index" : Str)], supB K (He.ga K "BadRules") sd_BadRules___init__, xclB K (He.ga K "BadText") [("line" : Str), ("word" : Str)], supB K (He.ga K "BadText") sd_BadText___init__, xisB K (He.ga K "BadRules"), decide (PySem.W.kitOne K (.ref (He.ga K "BadRules")) (.ref (He.ga K "BadRules")) = some true), decide (PySem.W.kitOne K (.ref (He.ga K "BadRules")) (.ref (He.ga K "BadLand")) = some false), decide (PySem.W.kitOne K (.ref (He.ga K "BadRules")) (.ref (He.ga K "BadMoment")) = some false), decide (PySem.W.kitOne K (.ref (He.ga K "BadRules")) (.ref (He.ga K "BadText")) = some false), decide (PySem.W.kitOne K (.ref (He.ga K "BadRules")) (.type "ValueError") = some true), xisB K (He.ga K "BadLand"), decide (PySem.W.kitOne K (.ref (He.ga K "BadLand")) (.ref (He.ga K "BadRules")) = some false), decide (PySem.W.kitOne K (.ref (He.ga K "BadLand")) (.ref (He.ga K "BadLand")) = some true), decide (PySem.W.kitOne K (.ref (He.ga K "BadLand")) (.ref (He.ga K "BadMoment")) = some false), decide (PySem.W.kitOne K (.ref (He.ga K "BadLand")) (.ref (He.ga K "BadText")) = some false), decide (PySem.W.kitOne K (.ref (He.ga K "BadLand")) (.type "ValueError") = some true), xisB K (He.ga K "BadMoment"), decide (PySem.W.kitOne K (.ref (He.ga K "BadMoment")) (.ref (He.ga K "BadRules")) = some false), decide (PySem.W.kitOne K (.ref (He.ga K "BadMoment")) (.ref (He.ga K "BadLand")) = some false), decide (PySem.W.kitOne K (.ref (He.ga K "BadMoment")) (.ref (He.ga K "BadMoment")) = some true), decide (PySem.W.kitOne K (.ref (He.ga K "BadMoment")) (.ref (He.ga K "BadText")) = some false), decide (PySem.W.kitOne K (.ref (He.ga K "BadMoment")) (.type "ValueError") = some true), xisB K (He.ga K "BadText"), decide (PySem.W.kitOne K (.ref (He.ga K "BadText")) (.ref (He.ga K "BadRules")) = some false), decide (PySem.W.kitOne K (.ref (He.ga K "BadText")) (.ref (He.ga K "BadLand")) = some false), decide (PySem.W.kitOne K (.ref (He.ga K "BadText")) (.ref (He.ga K "BadMoment")) = some false), decide (PySem.W.kitOne K (.ref (He.ga K "BadText")) (.ref (He.ga K "BadText")) = some true), decide (PySem.W.kitOne K (.ref (He.ga K "BadText")) (.type "ValueError") = some true)].all id) = true from T.more) _ (by exact .tail _ (.tail _ (.tail _ (.tail _ (.head _))))))
theorem Tx.ki_BadRules_BadRules (T : Tx K mg) : PySem.W.kitOne K (.ref (He.ga K "BadRules")) (.ref (He.ga K "BadRules")) = some true := of_decide_eq_true (List.all_eq_true.mp (show ([xclB K (He.ga K "BadRules") [("index" : Str)], supB K (He.ga K "BadRules") sd_BadRules___init__, xclB K (He.ga K "BadText") [("line" : Str), ("word" : Str)], supB K (He.ga K "BadText") sd_BadText___init__, xisB K (He.ga K "BadRules"), decide (PySem.W.kitOne K (.ref (He.ga K "BadRules")) (.ref (He.ga K "BadRules")) = some true), decide (PySem.W.kitOne K (.ref (He.ga K "BadRules")) (.ref (He.ga K "BadLand")) = some false), decide (PySem.W.kitOne K (.ref (He.ga K "BadRules")) (.ref (He.ga K "BadMoment")) = some false), decide (PySem.W.kitOne K (.ref (He.ga K "BadRules")) (.ref (He.ga K "BadText")) = some false), decide (PySem.W.kitOne K (.ref (He.ga K "BadRules")) (.type "ValueError") = some true), xisB K (He.ga K "BadLand"), decide (PySem.W.kitOne K (.ref (He.ga K "BadLand")) (.ref (He.ga K "BadRules")) = some false), decide (PySem.W.kitOne K (.ref (He.ga K "BadLand")) (.ref (He.ga K "BadLand")) = some true), decide (PySem.W.kitOne K (.ref (He.ga K "BadLand")) (.ref (He.ga K "BadMoment")) = some false), decide (PySem.W.kitOne K (.ref (He.ga K "BadLand")) (.ref (He.ga K "BadText")) = some false), decide (PySem.W.kitOne K (.ref (He.ga K "BadLand")) (.type "ValueError") = some true), xisB K (He.ga K "BadMoment"), decide (PySem.W.kitOne K (.ref (He.ga K "BadMoment")) (.ref (He.ga K "BadRules")) = some false), decide (PySem.W.kitOne K (.ref (He.ga K "BadMoment")) (.ref (He.ga K "BadLand")) = some false), decide (PySem.W.kitOne K (.ref (He.ga K "BadMoment")) (.ref (He.ga K "BadMoment")) = some true), decide (PySem.W.kitOne K (.ref (He.ga K "BadMoment")) (.ref (He.ga K "BadText")) = some false), decide (PySem.W.kitOne K (.ref (He.ga K "BadMoment")) (.type "ValueError") = some true), xisB K (He.ga K "BadText"), decide (PySem.W.kitOne K (.ref (He.ga K "BadText")) (.ref (He.ga K "BadRules")) = some false), decide (PySem.W.kitOne K (.ref (He.ga K "BadText")) (.ref (He.ga K "BadLand")) = some false), decide (PySem.W.kitOne K (.ref (He.ga K "BadText")) (.ref (He.ga K "BadMoment")) = some false), decide (PySem.W.kitOne K (.ref (He.ga K "BadText")) (.ref (He.ga K "BadText")) = some true), decide (PySem.W.kitOne K (.ref (He.ga K "BadText")) (.type "ValueError") = some true)].all id) = true from T.more) _ (by exact .tail _ (.tail _ (.tail _ (.tail _ (.tail _ (.head _)))))))
theorem Tx.ki_BadRules_BadLand (T : Tx K mg) : PySem.W.kitOne K (.ref (He.ga K "BadRules")) (.ref (He.ga K "BadLand")) = some false := of_decide_eq_true (List.all_eq_true.mp (show ([xclB K (He.ga K "BadRules") [("index" : Str)], supB K (He.ga K "BadRules") sd_BadRules___init__, xclB K (He.ga K "BadText") [("line" : Str), ("word" : Str)], supB K (He.ga K "BadText") sd_BadText___init__, xisB K (He.ga K "BadRules"), decide (PySem.W.kitOne K (.ref (He.ga K "BadRules")) (.ref (He.ga K "BadRules")) = some true), decide (PySem.W.kitOne K (.ref (He.ga K "BadRules")) (.ref (He.ga K "BadLand")) = some false), decide (PySem.W.kitOne K (.ref (He.ga K "BadRules")) (.ref (He.ga K "BadMoment")) = some false), decide (PySem.W.kitOne K (.ref (He.ga K "BadRules")) (.ref (He.ga K "BadText")) = some false), decide (PySem.W.kitOne K (.ref (He.ga K "BadRules")) (.type "ValueError") = some true), xisB K (He.ga K "BadLand"), decide (PySem.W.kitOne K (.ref (He.ga K "BadLand")) (.ref (He.ga K "BadRules")) = some false), decide (PySem.W.kitOne K (.ref (He.ga K "BadLand")) (.ref (He.ga K "BadLand")) = some true), decide (PySem.W.kitOne K (.ref (He.ga K "BadLand")) (.ref (He.ga K "BadMoment")) = some false), decide (PySem.W.kitOne K (.ref (He.ga K "BadLand")) (.ref (He.ga K "BadText")) = some false), decide (PySem.W.kitOne K (.ref (He.ga K "BadLand")) (.type "ValueError") = some true), xisB K (He.ga K "BadMoment"), decide (PySem.W.kitOne K (.ref (He.ga K "BadMoment")) (.ref (He.ga K "BadRules")) = some false), decide (PySem.W.kitOne K (.ref (He.ga K "BadMoment")) (.ref (He.ga K "BadLand")) = some false), decide (PySem.W.kitOne K (.ref (He.ga K "BadMoment")) (.ref (He.ga K "BadMoment")) = some true), decide (PySem.W.kitOne K (.ref (He.ga K "BadMoment")) (.ref (He.ga K "BadText")) = some false), decide (PySem.W.kitOne K (.ref (He.ga K "BadMoment")) (.type "ValueError") = some true), xisB K (He.ga K "BadText"), decide (PySem.W.kitOne K (.ref (He.ga K "BadText")) (.ref (He.ga K "BadRules")) = some false), decide (PySem.W.kitOne K (.ref (He.ga K "BadText")) (.ref (He.ga K "BadLand")) = some false), decide (PySem.W.kitOne K (.ref (He.ga K "BadText")) (.ref (He.ga K "BadMoment")) = some false), decide (PySem.W.kitOne K (.ref (He.ga K "BadText")) (.ref (He.ga K "BadText")) = some true), decide (PySem.W.kitOne K (.ref (He.ga K "BadText")) (.type "ValueError") = some true)].all id) = true from T.more) _ (by exact .tail _ (.tail _ (.tail _ (.tail _ (.tail _ (.tail _ (.head _))))))))
theorem Tx.ki_BadRules_BadMoment (T : Tx K mg) : PySem.W.kitOne K (.ref (He.ga K "BadRules")) (.ref (He.ga K "BadMoment")) = some false := of_decide_eq_true (List.all_eq_true.mp (show ([xclB K (He.ga K "BadRules") [("index" : Str)], supB K (He.ga K "BadRules") sd_BadRules___init__, xclB K (He.ga K "BadText") [("line" : Str), ("word" : Str)], supB K (He.ga K "BadText") sd_BadText___init__, xisB K (He.ga K "BadRules"), decide (PySem.W.kitOne K (.ref (He.ga K "BadRules")) (.ref (He.ga K "BadRules")) = some true), decide (PySem.W.kitOne K (.ref (He.ga K "BadRules")) (.ref (He.ga K "BadLand")) = some false), decide (PySem.W.kitOne K (.ref (He.ga K "BadRules")) (.ref (He.ga K "BadMoment")) = some false), decide (PySem.W.kitOne K (.ref (He.ga K "BadRules")) (.ref (He.ga K "BadText")) = some false), decide (PySem.W.kitOne K (.ref (He.ga K "BadRules")) (.type "ValueError") = some true), xisB K (He.ga K "BadLand"), decide (PySem.W.kitOne K (.ref (He.ga K "BadLand")) (.ref (He.ga K "BadRules")) = some false), decide (PySem.W.kitOne K (.ref (He.ga K "BadLand")) (.ref (He.ga K "BadLand")) = some true), decide (PySem.W.kitOne K (.ref (He.ga K "BadLand")) (.ref (He.ga K "BadMoment")) = some false), decide (PySem.W.kitOne K (.ref (He.ga K "BadLand")) (.ref (He.ga K "BadText")) = some false), decide (PySem.W.kitOne K (.ref (He.ga K "BadLand")) (.type "ValueError") = some true), xisB K (He.ga K "BadMoment"), decide (PySem.W.kitOne K (.ref (He.ga K "BadMoment")) (.ref (He.ga K "BadRules")) = some false), decide (PySem.W.kitOne K (.ref (He.ga K "BadMoment")) (.ref (He.ga K "BadLand")) = some false), decide (PySem.W.kitOne K (.ref (He.ga K "BadMoment")) (.ref (He.ga K "BadMoment")) = some true), decide (PySem.W.kitOne K (.ref (He.ga K "BadMoment")) (.ref (He.ga K "BadText")) = some false), decide (PySem.W.kitOne K (.ref (He.ga K "BadMoment")) (.type "ValueError") = some true), xisB K (He.ga K "BadText"), decide (PySem.W.kitOne K (.ref (He.ga K "BadText")) (.ref (He.ga K "BadRules")) = some false), decide (PySem.W.kitOne K (.ref (He.ga K "BadText")) (.ref (He.ga K "BadLand")) = some false), decide (PySem.W.kitOne K (.ref (He.ga K "BadText")) (.ref (He.ga K "BadMoment")) = some false), decide (PySem.W.kitOne K (.ref (He.ga K "BadText")) (.ref (He.ga K "BadText")) = some true), decide (PySem.W.kitOne K (.ref (He.ga K "BadText")) (.type "ValueError") = some true)].all id) = true from T.more) _ (by exact .tail _ (.tail _ (.tail _ (.tail _ (.tail _ (.tail _ (.tail _ (.head _)))))))))
theorem Tx.ki_BadRules_BadText (T : Tx K mg) : PySem.W.kitOne K (.ref (He.ga K "BadRules")) (.ref (He.ga K "BadText")) = some false := of_decide_eq_true (List.all_eq_true.mp (show ([xclB K (He.ga K "BadRules") [("index" : Str)], supB K (He.ga K "BadRules") sd_BadRules___init__, xclB K (He.ga K "BadText") [("line" : Str), ("word" : Str)], supB K (He.ga K "BadText") sd_BadText___init__, xisB K (He.ga K "BadRules"), decide (PySem.W.kitOne K (.ref (He.ga K "BadRules")) (.ref (He.ga K "BadRules")) = some true), decide (PySem.W.kitOne K (.ref (He.ga K "BadRules")) (.ref (He.ga K "BadLand")) = some false), decide (PySem.W.kitOne K (.ref (He.ga K "BadRules")) (.ref (He.ga K "BadMoment")) = some false), decide (PySem.W.kitOne K (.ref (He.ga K "BadRules")) (.ref (He.ga K "BadText")) = some false), decide (PySem.W.kitOne K (.ref (He.ga K "BadRules")) (.type "ValueError") = some true), xisB K (He.ga K "BadLand"), decide (PySem.W.kitOne K (.ref (He.ga K "BadLand")) (.ref (He.ga K "BadRules")) = some false), decide (PySem.W.kitOne K (.ref (He.ga K "BadLand")) (.ref (He.ga K "BadLand")) = some true), decide (PySem.W.kitOne K (.ref (He.ga K "BadLand")) (.ref (He.ga K "BadMoment")) = some false), decide (PySem.W.kitOne K (.ref (He.ga K "BadLand")) (.ref (He.ga K "BadText")) = some false), decide (PySem.W.kitOne K (.ref (He.ga K "BadLand")) (.type "ValueError") = some true), xisB K (He.ga K "BadMoment"), decide (PySem.W.kitOne K (.ref (He.ga K "BadMoment")) (.ref (He.ga K "BadRules")) = some false), decide (PySem.W.kitOne K (.ref (He.ga K "BadMoment")) (.ref (He.ga K "BadLand")) = some false), decide (PySem.W.kitOne K (.ref (He.ga K "BadMoment")) (.ref (He.ga K "BadMoment")) = some true), decide (PySem.W.kitOne K (.ref (He.ga K "BadMoment")) (.ref (He.ga K "BadText")) = some false), decide (PySem.W.kitOne K (.ref (He.ga K "BadMoment")) (.type "ValueError") = some true), xisB K (He.ga K "BadText"), decide (PySem.W.kitOne K (.ref (He.ga K "BadText")) (.ref (He.ga K "BadRules")) = some false), decide (PySem.W.kitOne K (.ref (He.ga K "BadText")) (.ref (He.ga K "BadLand")) = some false), decide (PySem.W.kitOne K (.ref (He.ga K "BadText")) (.ref (He.ga K "BadMoment")) = some false), decide (PySem.W.kitOne K (.ref (He.ga K "BadText")) (.ref (He.ga K "BadText")) = some true), decide (PySem.W.kitOne K (.ref (He.ga K "BadText")) (.type "ValueError") = some true)].all id) = true from T.more) _ (by exact .tail _ (.tail _ (.tail _ (.tail _ (.tail _ (.tail _ (.tail _ (.tail _ (.head _))))))))))
theorem Tx.kv_BadRules (T : Tx K mg) : PySem.W.kitOne K (.ref (He.ga K "BadRules")) (.type "ValueError") = some true := of_decide_eq_true (List.all_eq_true.mp (show ([xclB K (He.ga K "BadRules") [("index" : Str)], supB K (He.ga K "BadRules") sd_BadRules___init__, xclB K (He.ga K "BadText") [("line" : Str), ("word" : Str)], supB K (He.ga K "BadText") sd_BadText___init__, xisB K (He.ga K "BadRules"), decide (PySem.W.kitOne K (.ref (He.ga K "BadRules")) (.ref (He.ga K "BadRules")) = some true), decide (PySem.W.kitOne K (.ref (He.ga K "BadRules")) (.ref (He.ga K "BadLand")) = some false), decide (PySem.W.kitOne K (.ref (He.ga K "BadRules")) (.ref (He.ga K "BadMoment")) = some false), decide (PySem.W.kitOne K (.ref (He.ga K "BadRules")) (.ref (He.ga K "BadText")) = some false), decide (PySem.W.kitOne K (.ref (He.ga K "BadRules")) (.type "ValueError") = some true), xisB K (He.ga K "BadLand"), decide (PySem.W.kitOne K (.ref (He.ga K "BadLand")) (.ref (He.ga K "BadRules")) = some false), decide (PySem.W.kitOne K (.ref (He.ga K "BadLand")) (.ref (He.ga K "BadLand")) = some true), decide (PySem.W.kitOne K (.ref (He.ga K "BadLand")) (.ref (He.ga K "BadMoment")) = some false), decide (PySem.W.kitOne K (.ref (He.ga K "BadLand")) (.ref (He.ga K "BadText")) = some false), decide (PySem.W.kitOne K (.ref (He.ga K "BadLand")) (.type "ValueError") = some true), xisB K (He.ga K "BadMoment"), decide (PySem.W.kitOne K (.ref (He.ga K "BadMoment")) (.ref (He.ga K "BadRules")) = some false), decide (PySem.W.kitOne K (.ref (He.ga K "BadMoment")) (.ref (He.ga K "BadLand")) = some false), decide (PySem.W.kitOne K (.ref (He.ga K "BadMoment")) (.ref (He.ga K "BadMoment")) = some true), decide (PySem.W.kitOne K (.ref (He.ga K "BadMoment")) (.ref (He.ga K "BadText")) = some false), decide (PySem.W.kitOne K (.ref (He.ga K "BadMoment")) (.type "ValueError") = some true), xisB K (He.ga K "BadText"), decide (PySem.W.kitOne K (.ref (He.ga K "BadText")) (.ref (He.ga K "BadRules")) = some false), decide (PySem.W.kitOne K (.ref (He.ga K "BadText")) (.ref (He.ga K "BadLand")) = some false), decide (PySem.W.kitOne K (.ref (He.ga K "BadText")) (.ref (He.ga K "BadMoment")) = some false), decide (PySem.W.kitOne K (.ref (He.ga K "BadText")) (.ref (He.ga K "BadText")) = some true), decide (PySem.W.kitOne K (.ref (He.ga K "BadText")) (.type "ValueError") = some true)].all id) = true from T.more) _ (by exact .tail _ (.tail _ (.tail _ (.tail _ (.tail _ (.tail _ (.tail _ (.tail _ (.tail _ (.head _)))))))))))
theorem Tx.xi_BadLand (T : Tx K mg) : L2.ExcC K (He.ga K "BadLand") := xisB_ok (List.all_eq_true.mp (show ([xclB K (He.ga K "BadRules") [("index" : Str)], supB K (He.ga K "BadRules") sd_BadRules___init__, xclB K (He.ga K "BadText") [("line" : Str), ("word" : Str)], supB K (He.ga K "BadText") sd_BadText___init__, xisB K (He.ga K "BadRules"), decide (PySem.W.kitOne K (.ref (He.ga K "BadRules")) (.ref (He.ga K "BadRules")) = some true), decide (PySem.W.kitOne K (.ref (He.ga K "BadRules")) (.ref (He.ga K "BadLand")) = some false), decide (PySem.W.kitOne K (.ref (He.ga K "BadRules")) (.ref (He.ga K "BadMoment")) = some false), decide (PySem.W.kitOne K (.ref (He.ga K "BadRules")) (.ref (He.ga K "BadText")) = some false), decide (PySem.W.kitOne K (.ref (He.ga K "BadRules")) (.type "ValueError") = some true), xisB K (He.ga K "BadLand"), decide (PySem.W.kitOne K (.ref (He.ga K "BadLand")) (.ref (He.ga K "BadRules")) = some false), decide (PySem.W.kitOne K (.ref (He.ga K "BadLand")) (.ref (He.ga K "BadLand")) = some true), decide (PySem.W.kitOne K (.ref (He.ga K "BadLand")) (.ref (He.ga K "BadMoment")) = some false), decide (PySem.W.kitOne K (.ref (He.ga K "BadLand")) (.ref (He.ga K "BadText")) = some false), decide (PySem.W.kitOne K (.ref (He.ga K "BadLand")) (.type "ValueError") = some true), xisB K (He.ga K "BadMoment"), decide (PySem.W.kitOne K (.ref (He.ga K "BadMoment")) (.ref (He.ga K "BadRules")) = some false), decide (PySem.W.kitOne K (.ref (He.ga K "BadMoment")) (.ref (He.ga K "BadLand")) = some false), decide (PySem.W.kitOne K (.ref (He.ga K "BadMoment")) (.ref (He.ga K "BadMoment")) = some true), decide (PySem.W.kitOne K (.ref (He.ga K "BadMoment")) (.ref (He.ga K "BadText")) = some false), decide (PySem.W.kitOne K (.ref (He.ga K "BadMoment")) (.type "ValueError") = some true), xisB K (He.ga K "BadText"), decide (PySem.W.kitOne K (.ref (He.ga K "BadText")) (.ref (He.ga K "BadRules")) = some false), decide (PySem.W.kitOne K (.ref (He.ga K "BadText")) (.ref (He.ga K "BadLand")) = some false), decide (PySem.W.kitOne K (.ref (He.ga K "BadText")) (.ref (He.ga K "BadMoment")) = some false), decide (PySem.W.kitOne K (.ref (He.ga K "BadText")) (.ref (He.ga K "BadText")) = some true), decide (PySem.W.kitOne K (.ref (He.ga K "BadText")) (.type "ValueError") = some true)].all id) = true from T.more) _ (by exact .tail _ (.tail _ (.tail _ (.tail _ (.tail _ (.tail _ (.tail _ (.tail _ (.tail _ (.tail _ (.head _))))))))))))
theorem Tx.ki_BadLand_BadRules (T : Tx K mg) : PySem.W.kitOne K (.ref (He.ga K "BadLand")) (.ref (He.ga K "BadRules")) = some false := of_decide_eq_true (List.all_eq_true.mp (show ([xclB K (He.ga K "BadRules") [("index" : Str)], supB K (He.ga K "BadRules") sd_BadRules___init__, xclB K (He.ga K "BadText") [("line" : Str), ("word" : Str)], supB K (He.ga K "BadText") sd_BadText___init__, xisB K (He.ga K "BadRules"), decide (PySem.W.kitOne K (.ref (He.ga K "BadRules")) (.ref (He.ga K "BadRules")) = some true), decide (PySem.W.kitOne K (.ref (He.ga K "BadRules")) (.ref (He.ga K "BadLand")) = some false), decide (PySem.W.kitOne K (.ref (He.ga K "BadRules")) (.ref (He.ga K "BadMoment")) = some false), decide (PySem.W.kitOne K (.ref (He.ga K "BadRules")) (.ref (He.ga K "BadText")) = some false), decide (PySem.W.kitOne K (.ref (He.ga K "BadRules")) (.type "ValueError") = some true), xisB K (He.ga K "BadLand"), decide (PySem.W.kitOne K (.ref (He.ga K "BadLand")) (.ref (He.ga K "BadRules")) = some false), decide (PySem.W.kitOne K (.ref (He.ga K "BadLand")) (.ref (He.ga K "BadLand")) = some true), decide (PySem.W.kitOne K (.ref (He.ga K "BadLand")) (.ref (He.ga K "BadMoment")) = some false), decide (PySem.W.kitOne K (.ref (He.ga K "BadLand")) (.ref (He.ga K "BadText")) = some false), decide (PySem.W.kitOne K (.ref (He.ga K "BadLand")) (.type "ValueError") = some true), xisB K (He.ga K "BadMoment"), decide (PySem.W.kitOne K (.ref (He.ga K "BadMoment")) (.ref (He.ga K "BadRules")) = some false), decide (PySem.W.kitOne K (.ref (He.ga K "BadMoment")) (.ref (He.ga K "BadLand")) = some false), decide (PySem.W.kitOne K (.ref (He.ga K "BadMoment")) (.ref (He.ga K "BadMoment")) = some true), decide (PySem.W.kitOne K (.ref (He.ga K "BadMoment")) (.ref (He.ga K "BadText")) = some false), decide (PySem.W.kitOne K (.ref (He.ga K "BadMoment")) (.type "ValueError") = some true), xisB K (He.ga K "BadText"), decide (PySem.W.kitOne K (.ref (He.ga K "BadText")) (.ref (He.ga K "BadRules")) = some false), decide (PySem.W.kitOne K (.ref (He.ga K "BadText")) (.ref (He.ga K "BadLand")) = some false), decide (PySem.W.kitOne K (.ref (He.ga K "BadText")) (.ref (He.ga K "BadMoment")) = some false), decide (PySem.W.kitOne K (.ref (He.ga K "BadText")) (.ref (He.ga K "BadText")) = some true), decide (PySem.W.kitOne K (.ref (He.ga K "BadText")) (.type "ValueError") = some true)].all id) = true from T.more) _ (by exact .tail _ (.tail _ (.tail _ (.tail _ (.tail _ (.tail _ (.tail _ (.tail _ (.tail _ (.tail _ (.tail _ (.head _)))))))))))))
theorem Tx.ki_BadLand_BadLand (T : Tx K mg) : PySem.W.kitOne K (.ref (He.ga K "BadLand")) (.ref (He.ga K "BadLand")) = some true := of_decide_eq_true (List.all_eq_true.mp (show ([xclB K (He.ga K "BadRules") [("index" : Str)], supB K (He.ga K "BadRules") sd_BadRules___init__, xclB K (He.ga K "BadText") [("line" : Str), ("word" : Str)], supB K (He.ga K "BadText") sd_BadText___init__, xisB K (He.ga K "BadRules"), decide (PySem.W.kitOne K (.ref (He.ga K "BadRules")) (.ref (He.ga K "BadRules")) = some true), decide (PySem.W.kitOne K (.ref (He.ga K "BadRules")) (.ref (He.ga K "BadLand")) = some false), decide (PySem.W.kitOne K (.ref (He.ga K "BadRules")) (.ref (He.ga K "BadMoment")) = some false), decide (PySem.W.kitOne K (.ref (He.ga K "BadRules")) (.ref (He.ga K "BadText")) = some false), decide (PySem.W.kitOne K (.ref (He.ga K "BadRules")) (.type "ValueError") = some true), xisB K (He.ga K "BadLand"), decide (PySem.W.kitOne K (.ref (He.ga K "BadLand")) (.ref (He.ga K "BadRules")) = some false), decide (PySem.W.kitOne K (.ref (He.ga K "BadLand")) (.ref (He.ga K "BadLand")) = some true), decide (PySem.W.kitOne K (.ref (He.ga K "BadLand")) (.ref (He.ga K "BadMoment")) = some false), decide (PySem.W.kitOne K (.ref (He.ga K "BadLand")) (.ref (He.ga K "BadText")) = some false), decide (PySem.W.kitOne K (.ref (He.ga K "BadLand")) (.type "ValueError") = some true), xisB K (He.ga K "BadMoment"), decide (PySem.W.kitOne K (.ref (He.ga K "BadMoment")) (.ref (He.ga K "BadRules")) = some false), decide (PySem.W.kitOne K (.ref (He.ga K "BadMoment")) (.ref (He.ga K "BadLand")) = some false), decide (PySem.W.kitOne K (.ref (He.ga K "BadMoment")) (.ref (He.ga K "BadMoment")) = some true), decide (PySem.W.kitOne K (.ref (He.ga K "BadMoment")) (.ref (He.ga K "BadText")) = some false), decide (PySem.W.kitOne K (.ref (He.ga K "BadMoment")) (.type "ValueError") = some true), xisB K (He.ga K "BadText"), decide (PySem.W.kitOne K (.ref (He.ga K "BadText")) (.ref (He.ga K "BadRules")) = some false), decide (PySem.W.kitOne K (.ref (He.ga K "BadText")) (.ref (He.ga K "BadLand")) = some false), decide (PySem.W.kitOne K (.ref (He.ga K "BadText")) (.ref (He.ga K "BadMoment")) = some false), decide (PySem.W.kitOne K (.ref (He.ga K "BadText")) (.ref (He.ga K "BadText")) = some true), decide (PySem.W.kitOne K (.ref (He.ga K "BadText")) (.type "ValueError") = some true)].all id) = true from T.more) _ (by exact .tail _ (.tail _ (.tail _ (.tail _ (.tail _ (.tail _ (.tail _ (.tail _ (.tail _ (.tail _ (.tail _ (.tail _ (.head _))))))))))))))
theorem Tx.ki_BadLand_BadMoment (T : Tx K mg) : PySem.W.kitOne K (.ref (He.ga K "BadLand")) (.ref (He.ga K "BadMoment")) = some false := of_decide_eq_true (List.all_eq_true.mp (show ([xclB K (He.ga K "BadRules") [("index" : Str)], supB K (He.ga K "BadRules") sd_BadRules___init__, xclB K (He.ga K "BadText") [("line" : Str), ("word" : Str)], supB K (He.ga K "BadText") sd_BadText___init__, xisB K (He.ga K "BadRules"), decide (PySem.W.kitOne K (.ref (He.ga K "BadRules")) (.ref (He.ga K "BadRules")) = some true), decide (PySem.W.kitOne K (.ref (He.ga K "BadRules")) (.ref (He.ga K "BadLand")) = some false), decide (PySem.W.kitOne K (.ref (He.ga K "BadRules")) (.ref (He.ga K "BadMoment")) = some false), decide (PySem.W.kitOne K (.ref (He.ga K "BadRules")) (.ref (He.ga K "BadText")) = some false), decide (PySem.W.kitOne K (.ref (He.ga K "BadRules")) (.type "ValueError") = some true), xisB K (He.ga K "BadLand"), decide (PySem.W.kitOne K (.ref (He.ga K "BadLand")) (.ref (He.ga K "BadRules")) = some false), decide (PySem.W.kitOne K (.ref (He.ga K "BadLand")) (.ref (He.ga K "BadLand")) = some true), decide (PySem.W.kitOne K (.ref (He.ga K "BadLand")) (.ref (He.ga K "BadMoment")) = some false), decide (PySem.W.kitOne K (.ref (He.ga K "BadLand")) (.ref (He.ga K "BadText")) = some false), decide (PySem.W.kitOne K (.ref (He.ga K "BadLand")) (.type "ValueError") = some true), xisB K (He.ga K "BadMoment"), decide (PySem.W.kitOne K (.ref (He.ga K "BadMoment")) (.ref (He.ga K "BadRules")) = some false), decide (PySem.W.kitOne K (.ref (He.ga K "BadMoment")) (.ref (He.ga K "BadLand")) = some false), decide (PySem.W.kitOne K (.ref (He.ga K "BadMoment")) (.ref (He.ga K "BadMoment")) = some true), decide (PySem.W.kitOne K (.ref (He.ga K "BadMoment")) (.ref (He.ga K "BadText")) = some false), decide (PySem.W.kitOne K (.ref (He.ga K "BadMoment")) (.type "ValueError") = some true), xisB K (He.ga K "BadText"), decide (PySem.W.kitOne K (.ref (He.ga K "BadText")) (.ref (He.ga K "BadRules")) = some false), decide (PySem.W.kitOne K (.ref (He.ga K "BadText")) (.ref (He.ga K "BadLand")) = some false), decide (PySem.W.kitOne K (.ref (He.ga K "BadText")) (.ref (He.ga K "BadMoment")) = some false), decide (PySem.W.kitOne K (.ref (He.ga K "BadText")) (.ref (He.ga K "BadText")) = some true), decide (PySem.W.kitOne K (.ref (He.ga K "BadText")) (.type "ValueError") = some true)].all id) = true from T.more) _ (by exact .tail _ (.tail _ (.tail _ (.tail _ (.tail _ (.tail _ (.tail _ (.tail _ (.tail _ (.tail _ (.tail _ (.tail _ (.tail _ (.head _)))))))))))))))
theorem Tx.ki_BadLand_BadText (T : Tx K mg) : PySem.W.kitOne K (.ref (He.ga K "BadLand")) (.ref (He.ga K "BadText")) = some false := of_decide_eq_true (List.all_eq_true.mp (show ([xclB K (He.ga K "BadRules") [("index" : Str)], supB K (He.ga K "BadRules") sd_BadRules___init__, xclB K (He.ga K "BadText") [("line" : Str), ("word" : Str)], supB K (He.ga K "BadText") sd_BadText___init__, xisB K (He.ga K "BadRules"), decide (PySem.W.kitOne K (.ref (He.ga K "BadRules")) (.ref (He.ga K "BadRules")) = some true), decide (PySem.W.kitOne K (.ref (He.ga K "BadRules")) (.ref (He.ga K "BadLand")) = some false), decide (PySem.W.kitOne K (.ref (He.ga K "BadRules")) (.ref (He.ga K "BadMoment")) = some false), decide (PySem.W.kitOne K (.ref (He.ga K "BadRules")) (.ref (He.ga K "BadText")) = some false), decide (PySem.W.kitOne K (.ref (He.ga K "BadRules")) (.type "ValueError") = some true), xisB K (He.ga K "BadLand"), decide (PySem.W.kitOne K (.ref (He.ga K "BadLand")) (.ref (He.ga K "BadRules")) = some false), decide (PySem.W.kitOne K (.ref (He.ga K "BadLand")) (.ref (He.ga K "BadLand")) = some true), decide (PySem.W.kitOne K (.ref (He.ga K "BadLand")) (.ref (He.ga K "BadMoment")) = some false), decide (PySem.W.kitOne K (.ref (He.ga K "BadLand")) (.ref (He.ga K "BadText")) = some false), decide (PySem.W.kitOne K (.ref (He.ga K "BadLand")) (.type "ValueError") = some true), xisB K (He.ga K "BadMoment"), decide (PySem.W.kitOne K (.ref (He.ga K "BadMoment")) (.ref (He.ga K "BadRules")) = some false), decide (PySem.W.kitOne K (.ref (He.ga K "BadMoment")) (.ref (He.ga K "BadLand")) = some false), decide (PySem.W.kitOne K (.ref (He.ga K "BadMoment")) (.ref (He.ga K "BadMoment")) = some true), decide (PySem.W.kitOne K (.ref (He.ga K "BadMoment")) (.ref (He.ga K "BadText")) = some false), decide (PySem.W.kitOne K (.ref (He.ga K "BadMoment")) (.type "ValueError") = some true), xisB K (He.ga K "BadText"), decide (PySem.W.kitOne K (.ref (He.ga K "BadText")) (.ref (He.ga K "BadRules")) = some false), decide (PySem.W.kitOne K (.ref (He.ga K "BadText")) (.ref (He.ga K "BadLand")) = some false), decide (PySem.W.kitOne K (.ref (He.ga K "BadText")) (.ref (He.ga K "BadMoment")) = some false), decide (PySem.W.kitOne K (.ref (He.ga K "BadText")) (.ref (He.ga K "BadText")) = some true), decide (PySem.W.kitOne K (.ref (He.ga K "BadText")) (.type "ValueError") = some true)].all id) = true from T.more) _ (by exact .tail _ (.tail _ (.tail _ (.tail _ (.tail _ (.tail _ (.tail _ (.tail _ (.tail _ (.tail _ (.tail _ (.tail _ (.tail _ (.tail _ (.head _))))))))))))))))
theorem Tx.kv_BadLand (T : Tx K mg) : PySem.W.kitOne K (.ref (He.ga K "BadLand")) (.type "ValueError") = some true := of_decide_eq_true (List.all_eq_true.mp (show ([xclB K (He.ga K "BadRules") [("index" : Str)], supB K (He.ga K "BadRules") sd_BadRules___init__, xclB K (He.ga K "BadText") [("line" : Str), ("word" : Str)], supB K (He.ga K "BadText") sd_BadText___init__, xisB K (He.ga K "BadRules"), decide (PySem.W.kitOne K (.ref (He.ga K "BadRules")) (.ref (He.ga K "BadRules")) = some true), decide (PySem.W.kitOne K (.ref (He.ga K "BadRules")) (.ref (He.ga K "BadLand")) = some false), decide (PySem.W.kitOne K (.ref (He.ga K "BadRules")) (.ref (He.ga K "BadMoment")) = some false), decide (PySem.W.kitOne K (.ref (He.ga K "BadRules")) (.ref (He.ga K "BadText")) = some false), decide (PySem.W.kitOne K (.ref (He.ga K "BadRules")) (.type "ValueError") = some true), xisB K (He.ga K "BadLand"), decide (PySem.W.kitOne K (.ref (He.ga K "BadLand")) (.ref (He.ga K "BadRules")) = some false), decide (PySem.W.kitOne K (.ref (He.ga K "BadLand")) (.ref (He.ga K "BadLand")) = some true), decide (PySem.W.kitOne K (.ref (He.ga K "BadLand")) (.ref (He.ga K "BadMoment")) = some false), decide (PySem.W.kitOne K (.ref (He.ga K "BadLand")) (.ref (He.ga K "BadText")) = some false), decide (PySem.W.kitOne K (.ref (He.ga K "BadLand")) (.type "ValueError") = some true), xisB K (He.ga K "BadMoment"), decide (PySem.W.kitOne K (.ref (He.ga K "BadMoment")) (.ref (He.ga K "BadRules")) = some false), decide (PySem.W.kitOne K (.ref (He.ga K "BadMoment")) (.ref (He.ga K "BadLand")) = some false), decide (PySem.W.kitOne K (.ref (He.ga K "BadMoment")) (.ref (He.ga K "BadMoment")) = some true), decide (PySem.W.kitOne K (.ref (He.ga K "BadMoment")) (.ref (He.ga K "BadText")) = some false), decide (PySem.W.kitOne K (.ref (He.ga K "BadMoment")) (.type "ValueError") = some true), xisB K (He.ga K "BadText"), decide (PySem.W.kitOne K (.ref (He.ga K "BadText")) (.ref (He.ga K "BadRules")) = some false), decide (PySem.W.kitOne K (.ref (He.ga K "BadText")) (.ref (He.ga K "BadLand")) = some false), decide (PySem.W.kitOne K (.ref (He.ga K "BadText")) (.ref (He.ga K "BadMoment")) = some false), decide (PySem.W.kitOne K (.ref (He.ga K "BadText")) (.ref (He.ga K "BadText")) = some true), decide (PySem.W.kitOne K (.ref (He.ga K "BadText")) (.type "ValueError") = some true)].all id) = true from T.more) _ (by exact .tail _ (.tail _ (.tail _ (.tail _ (.tail _ (.tail _ (.tail _ (.tail _ (.tail _ (.tail _ (.tail _ (.tail _ (.tail _ (.tail _ (.tail _ (.head _)))))))))))))))))
theorem Tx.xi_BadMoment (T : Tx K mg) : L2.ExcC K (He.ga K "BadMoment") := xisB_ok (List.all_eq_true.mp (show ([xclB K (He.ga K "BadRules") [("index" : Str)], supB K (He.ga K "BadRules") sd_BadRules___init__, xclB K (He.ga K "BadText") [("line" : Str), ("word" : Str)], supB K (He.ga K "BadText") sd_BadText___init__, xisB K (He.ga K "BadRules"), decide (PySem.W.kitOne K (.ref (He.ga K "BadRules")) (.ref (He.ga K "BadRules")) = some true), decide (PySem.W.kitOne K (.ref (He.ga K "BadRules")) (.ref (He.ga K "BadLand")) = some false), decide (PySem.W.kitOne K (.ref (He.ga K "BadRules")) (.ref (He.ga K "BadMoment")) = some false), decide (PySem.W.kitOne K (.ref (He.ga K "BadRules")) (.ref (He.ga K "BadText")) = some false), decide (PySem.W.kitOne K (.ref (He.ga K "BadRules")) (.type "ValueError") = some true), xisB K (He.ga K "BadLand"), decide (PySem.W.kitOne K (.ref (He.ga K "BadLand")) (.ref (He.ga K "BadRules")) = some false), decide (PySem.W.kitOne K (.ref (He.ga K "BadLand")) (.ref (He.ga K "BadLand")) = some true), decide (PySem.W.kitOne K (.ref (He.ga K "BadLand")) (.ref (He.ga K "BadMoment")) = some false), decide (PySem.W.kitOne K (.ref (He.ga K "BadLand")) (.ref (He.ga K "BadText")) = some false), decide (PySem.W.kitOne K (.ref (He.ga K "BadLand")) (.type "ValueError") = some true), xisB K (He.ga K "BadMoment"), decide (PySem.W.kitOne K (.ref (He.ga K "BadMoment")) (.ref (He.ga K "BadRules")) = some false), decide (PySem.W.kitOne K (.ref (He.ga K "BadMoment")) (.ref (He.ga K "BadLand")) = some false), decide (PySem.W.kitOne K (.ref (He.ga K "BadMoment")) (.ref (He.ga K "BadMoment")) = some true), decide (PySem.W.kitOne K (.ref (He.ga K "BadMoment")) (.ref (He.ga K "BadText")) = some false), decide (PySem.W.kitOne K (.ref (He.ga K "BadMoment")) (.type "ValueError") = some true), xisB K (He.ga K "BadText"), decide (PySem.W.kitOne K (.ref (He.ga K "BadText")) (.ref (He.ga K "BadRules")) = some false), decide (PySem.W.kitOne K (.ref (He.ga K "BadText")) (.ref (He.ga K "BadLand")) = some false), decide (PySem.W.kitOne K (.ref (He.ga K "BadText")) (.ref (He.ga K "BadMoment")) = some false), decide (PySem.W.kitOne K (.ref (He.ga K "BadText")) (.ref (He.ga K "BadText")) = some true), decide (PySem.W.kitOne K (.ref (He.ga K "BadText")) (.type "ValueError") = some true)].all id) = true from T.more) _ (by exact .tail _ (.tail _ (.tail _ (.tail _ (.tail _ (.tail _ (.tail _ (.tail _ (.tail _ (.tail _ (.tail _ (.tail _ (.tail _ (.tail _ (.tail _ (.tail _ (.head _))))))))))))))))))
theorem Tx.ki_BadMoment_BadRules (T : Tx K mg) : PySem.W.kitOne K (.ref (He.ga K "BadMoment")) (.ref (He.ga K "BadRules")) = some false := of_decide_eq_true (List.all_eq_true.mp (show ([xclB K (He.ga K "BadRules") [("index" : Str)], supB K (He.ga K "BadRules") sd_BadRules___init__, xclB K (He.ga K "BadText") [("line" : Str), ("word" : Str)], supB K (He.ga K "BadText") sd_BadText___init__, xisB K (He.ga K "BadRules"), decide (PySem.W.kitOne K (.ref (He.ga K "BadRules")) (.ref (He.ga K "BadRules")) = some true), decide (PySem.W.kitOne K (.ref (He.ga K "BadRules")) (.ref (He.ga K "BadLand")) = some false), decide (PySem.W.kitOne K (.ref (He.ga K "BadRules")) (.ref (He.ga K "BadMoment")) = some false), decide (PySem.W.kitOne K (.ref (He.ga K "BadRules")) (.ref (He.ga K "BadText")) = some false), decide (PySem.W.kitOne K (.ref (He.ga K "BadRules")) (.type "ValueError") = some true), xisB K (He.ga K "BadLand"), decide (PySem.W.kitOne K (.ref (He.ga K "BadLand")) (.ref (He.ga K "BadRules")) = some false), decide (PySem.W.kitOne K (.ref (He.ga K "BadLand")) (.ref (He.ga K "BadLand")) = some true), decide (PySem.W.kitOne K (.ref (He.ga K "BadLand")) (.ref (He.ga K "BadMoment")) = some false), decide (PySem.W.kitOne K (.ref (He.ga K "BadLand")) (.ref (He.ga K "BadText")) = some false), decide (PySem.W.kitOne K (.ref (He.ga K "BadLand")) (.type "ValueError") = some true), xisB K (He.ga K "BadMoment"), decide (PySem.W.kitOne K (.ref (He.ga K "BadMoment")) (.ref (He.ga K "BadRules")) = some false), decide (PySem.W.kitOne K (.ref (He.ga K "BadMoment")) (.ref (He.ga K "BadLand")) = some false), decide (PySem.W.kitOne K (.ref (He.ga K "BadMoment")) (.ref (He.ga K "BadMoment")) = some true), decide (PySem.W.kitOne K (.ref (He.ga K "BadMoment")) (.ref (He.ga K "BadText")) = some false), decide (PySem.W.kitOne K (.ref (He.ga K "BadMoment")) (.type "ValueError") = some true), xisB K (He.ga K "BadText"), decide (PySem.W.kitOne K (.ref (He.ga K "BadText")) (.ref (He.ga K "BadRules")) = some false), decide (PySem.W.kitOne K (.ref (He.ga K "BadText")) (.ref (He.ga K "BadLand")) = some false), decide (PySem.W.kitOne K (.ref (He.ga K "BadText")) (.ref (He.ga K "BadMoment")) = some false), decide (PySem.W.kitOne K (.ref (He.ga K "BadText")) (.ref (He.ga K "BadText")) = some true), decide (PySem.W.kitOne K (.ref (He.ga K "BadText")) (.type "ValueError") = some true)].all id) = true from T.more) _ (by exact .tail _ (.tail _ (.tail _ (.tail _ (.tail _ (.tail _ (.tail _ (.tail _ (.tail _ (.tail _ (.tail _ (.tail _ (.tail _ (.tail _ (.tail _ (.tail _ (.tail _ (.head _)))))))))))))))))))
theorem Tx.ki_BadMoment_BadLand (T : Tx K mg) : PySem.W.kitOne K (.ref (He.ga K "BadMoment")) (.ref (He.ga K "BadLand")) = some false := of_decide_eq_true (List.all_eq_true.mp (show ([xclB K (He.ga K "BadRules") [("index" : Str)], supB K (He.ga K "BadRules") sd_BadRules___init__, xclB K (He.ga K "BadText") [("line" : Str), ("word" : Str)], supB K (He.ga K "BadText") sd_BadText___init__, xisB K (He.ga K "BadRules"), decide (PySem.W.kitOne K (.ref (He.ga K "BadRules")) (.ref (He.ga K "BadRules")) = some true), decide (PySem.W.kitOne K (.ref (He.ga K "BadRules")) (.ref (He.ga K "BadLand")) = some false), decide (PySem.W.kitOne K (.ref (He.ga K "BadRules")) (.ref (He.ga K "BadMoment")) = some false), decide (PySem.W.kitOne K (.ref (He.ga K "BadRules")) (.ref (He.ga K "BadText")) = some false), decide (PySem.W.kitOne K (.ref (He.ga K "BadRules")) (.type "ValueError") = some true), xisB K (He.ga K "BadLand"), decide (PySem.W.kitOne K (.ref (He.ga K "BadLand")) (.ref (He.ga K "BadRules")) = some false), decide (PySem.W.kitOne K (.ref (He.ga K "BadLand")) (.ref (He.ga K "BadLand")) = some true), decide (PySem.W.kitOne K (.ref (He.ga K "BadLand")) (.ref (He.ga K "BadMoment")) = some false), decide (PySem.W.kitOne K (.ref (He.ga K "BadLand")) (.ref (He.ga K "BadText")) = some false), decide (PySem.W.kitOne K (.ref (He.ga K "BadLand")) (.type "ValueError") = some true), xisB K (He.ga K "BadMoment"), decide (PySem.W.kitOne K (.ref (He.ga K "BadMoment")) (.ref (He.ga K "BadRules")) = some false), decide (PySem.W.kitOne K (.ref (He.ga K "BadMoment")) (.ref (He.ga K "BadLand")) = some false), decide (PySem.W.kitOne K (.ref (He.ga K "BadMoment")) (.ref (He.ga K "BadMoment")) = some true), decide (PySem.W.kitOne K (.ref (He.ga K "BadMoment")) (.ref (He.ga K "BadText")) = some false), decide (PySem.W.kitOne K (.ref (He.ga K "BadMoment")) (.type "ValueError") = some true), xisB K (He.ga K "BadText"), decide (PySem.W.kitOne K (.ref (He.ga K "BadText")) (.ref (He.ga K "BadRules")) = some false), decide (PySem.W.kitOne K (.ref (He.ga K "BadText")) (.ref (He.ga K "BadLand")) = some false), decide (PySem.W.kitOne K (.ref (He.ga K "BadText")) (.ref (He.ga K "BadMoment")) = some false), decide (PySem.W.kitOne K (.ref (He.ga K "BadText")) (.ref (He.ga K "BadText")) = some true), decide (PySem.W.kitOne K (.ref (He.ga K "BadText")) (.type "ValueError") = some true)].all id) = true from T.more) _ (by exact .tail _ (.tail _ (.tail _ (.tail _ (.tail _ (.tail _ (.tail _ (.tail _ (.tail _ (.tail _ (.tail _ (.tail _ (.tail _ (.tail _ (.tail _ (.tail _ (.tail _ (.tail _ (.head _))))))))))))))))))))
theorem Tx.ki_BadMoment_BadMoment (T : Tx K mg) : PySem.W.kitOne K (.ref (He.ga K "BadMoment")) (.ref (He.ga K "BadMoment")) = some true := of_decide_eq_true (List.all_eq_true.mp (show ([xclB K (He.ga K "BadRules") [("index" : Str)], supB K (He.ga K "BadRules") sd_BadRules___init__, xclB K (He.ga K "BadText") [("line" : Str), ("word" : Str)], supB K (He.ga K "BadText") sd_BadText___init__, xisB K (He.ga K "BadRules"), decide (PySem.W.kitOne K (.ref (He.ga K "BadRules")) (.ref (He.ga K "BadRules")) = some true), decide (PySem.W.kitOne K (.ref (He.ga K "BadRules")) (.ref (He.ga K "BadLand")) = some false), decide (PySem.W.kitOne K (.ref (He.ga K "BadRules")) (.ref (He.ga K "BadMoment")) = some false), decide (PySem.W.kitOne K (.ref (He.ga K "BadRules")) (.ref (He.ga K "BadText")) = some false), decide (PySem.W.kitOne K (.ref (He.ga K "BadRules")) (.type "ValueError") = some true), xisB K (He.ga K "BadLand"), decide (PySem.W.kitOne K (.ref (He.ga K "BadLand")) (.ref (He.ga K "BadRules")) = some false), decide (PySem.W.kitOne K (.ref (He.ga K "BadLand")) (.ref (He.ga K "BadLand")) = some true), decide (PySem.W.kitOne K (.ref (He.ga K "BadLand")) (.ref (He.ga K "BadMoment")) = some false), decide (PySem.W.kitOne K (.ref (He.ga K "BadLand")) (.ref (He.ga K "BadText")) = some false), decide (PySem.W.kitOne K (.ref (He.ga K "BadLand")) (.type "ValueError") = some true), xisB K (He.ga K "BadMoment"), decide (PySem.W.kitOne K (.ref (He.ga K "BadMoment")) (.ref (He.ga K "BadRules")) = some false), decide (PySem.W.kitOne K (.ref (He.ga K "BadMoment")) (.ref (He.ga K "BadLand")) = some false), decide (PySem.W.kitOne K (.ref (He.ga K "BadMoment")) (.ref (He.ga K "BadMoment")) = some true), decide (PySem.W.kitOne K (.ref (He.ga K "BadMoment")) (.ref (He.ga K "BadText")) = some false), decide (PySem.W.kitOne K (.ref (He.ga K "BadMoment")) (.type "ValueError") = some true), xisB K (He.ga K "BadText"), decide (PySem.W.kitOne K (.ref (He.ga K "BadText")) (.ref (He.ga K "BadRules")) = some false), decide (PySem.W.kitOne K (.ref (He.ga K "BadText")) (.ref (He.ga K "BadLand")) = some false), decide (PySem.W.kitOne K (.ref (He.ga K "BadText")) (.ref (He.ga K "BadMoment")) = some false), decide (PySem.W.kitOne K (.ref (He.ga K "BadText")) (.ref (He.ga K "BadText")) = some true), decide (PySem.W.kitOne K (.ref (He.ga K "BadText")) (.type "ValueError") = some true)].all id) = true from T.more) _ (by exact .tail _ (.tail _ (.tail _ (.tail _ (.tail _ (.tail _ (.tail _ (.tail _ (.tail _ (.tail _ (.tail _ (.tail _ (.tail _ (.tail _ (.tail _ (.tail _ (.tail _ (.tail _ (.tail _ (.head _)))))))))))))))))))))
theorem Tx.ki_BadMoment_BadText (T : Tx K mg) : PySem.W.kitOne K (.ref (He.ga K "BadMoment")) (.ref (He.ga K "BadText")) = some false := of_decide_eq_true (List.all_eq_true.mp (show ([xclB K (He.ga K "BadRules") [("index" : Str)], supB K (He.ga K "BadRules") sd_BadRules___init__, xclB K (He.ga K "BadText") [("line" : Str), ("word" : Str)], supB K (He.ga K "BadText") sd_BadText___init__, xisB K (He.ga K "BadRules"), decide (PySem.W.kitOne K (.ref (He.ga K "BadRules")) (.ref (He.ga K "BadRules")) = some true), decide (PySem.W.kitOne K (.ref (He.ga K "BadRules")) (.ref (He.ga K "BadLand")) = some false), decide (PySem.W.kitOne K (.ref (He.ga K "BadRules")) (.ref (He.ga K "BadMoment")) = some false), decide (PySem.W.kitOne K (.ref (He.ga K "BadRules")) (.ref (He.ga K "BadText")) = some false), decide (PySem.W.kitOne K (.ref (He.ga K "BadRules")) (.type "ValueError") = some true), xisB K (He.ga K "BadLand"), decide (PySem.W.kitOne K (.ref (He.ga K "BadLand")) (.ref (He.ga K "BadRules")) = some false), decide (PySem.W.kitOne K (.ref (He.ga K "BadLand")) (.ref (He.ga K "BadLand")) = some true), decide (PySem.W.kitOne K (.ref (He.ga K "BadLand")) (.ref (He.ga K "BadMoment")) = some false), decide (PySem.W.kitOne K (.ref (He.ga K "BadLand")) (.ref (He.ga K "BadText")) = some false), decide (PySem.W.kitOne K (.ref (He.ga K "BadLand")) (.type "ValueError") = some true), xisB K (He.ga K "BadMoment"), decide (PySem.W.kitOne K (.ref (He.ga K "BadMoment")) (.ref (He.ga K "BadRules")) = some false), decide (PySem.W.kitOne K (.ref (He.ga K "BadMoment")) (.ref (He.ga K "BadLand")) = some false), decide (PySem.W.kitOne K (.ref (He.ga K "BadMoment")) (.ref (He.ga K "BadMoment")) = some true), decide (PySem.W.kitOne K (.ref (He.ga K "BadMoment")) (.ref (He.ga K "BadText")) = some false), decide (PySem.W.kitOne K (.ref (He.ga K "BadMoment")) (.type "ValueError") = some true), xisB K (He.ga K "BadText"), decide (PySem.W.kitOne K (.ref (He.ga K "BadText")) (.ref (He.ga K "BadRules")) = some false), decide (PySem.W.kitOne K (.ref (He.ga K "BadText")) (.ref (He.ga K "BadLand")) = some false), decide (PySem.W.kitOne K (.ref (He.ga K "BadText")) (.ref (He.ga K "BadMoment")) = some false), decide (PySem.W.kitOne K (.ref (He.ga K "BadText")) (.ref (He.ga K "BadText")) = some true), decide (PySem.W.kitOne K (.ref (He.ga K "BadText")) (.type "ValueError") = some true)].all id) = true from T.more) _ (by exact .tail _ (.tail _ (.tail _ (.tail _ (.tail _ (.tail _ (.tail _ (.tail _ (.tail _ (.tail _ (.tail _ (.tail _ (.tail _ (.tail _ (.tail _ (.tail _ (.tail _ (.tail _ (.tail _ (.tail _ (.head _))))))))))))))))))))))
theorem Tx.kv_BadMoment (T : Tx K mg) : PySem.W.kitOne K (.ref (He.ga K "BadMoment")) (.type "ValueError") = some true := of_decide_eq_true (List.all_eq_true.mp (show ([xclB K (He.ga K "BadRules") [("index" : Str)], supB K (He.ga K "BadRules") sd_BadRules___init__, xclB K (He.ga K "BadText") [("line" : Str), ("word" : Str)], supB K (He.ga K "BadText") sd_BadText___init__, xisB K (He.ga K "BadRules"), decide (PySem.W.kitOne K (.ref (He.ga K "BadRules")) (.ref (He.ga K "BadRules")) = some true), decide (PySem.W.kitOne K (.ref (He.ga K "BadRules")) (.ref (He.ga K "BadLand")) = some false), decide (PySem.W.kitOne K (.ref (He.ga K "BadRules")) (.ref (He.ga K "BadMoment")) = some false), decide (PySem.W.kitOne K (.ref (He.ga K "BadRules")) (.ref (He.ga K "BadText")) = some false), decide (PySem.W.kitOne K (.ref (He.ga K "BadRules")) (.type "ValueError") = some true), xisB K (He.ga K "BadLand"), decide (PySem.W.kitOne K (.ref (He.ga K "BadLand")) (.ref (He.ga K "BadRules")) = some false), decide (PySem.W.kitOne K (.ref (He.ga K "BadLand")) (.ref (He.ga K "BadLand")) = some true), decide (PySem.W.kitOne K (.ref (He.ga K "BadLand")) (.ref (He.ga K "BadMoment")) = some false), decide (PySem.W.kitOne K (.ref (He.ga K "BadLand")) (.ref (He.ga K "BadText")) = some false), decide (PySem.W.kitOne K (.ref (He.ga K "BadLand")) (.type "ValueError") = some true), xisB K (He.ga K "BadMoment"), decide (PySem.W.kitOne K (.ref (He.ga K "BadMoment")) (.ref (He.ga K "BadRules")) = some false), decide (PySem.W.kitOne K (.ref (He.ga K "BadMoment")) (.ref (He.ga K "BadLand")) = some false), decide (PySem.W.kitOne K (.ref (He.ga K "BadMoment")) (.ref (He.ga K "BadMoment")) = some true), decide (PySem.W.kitOne K (.ref (He.ga K "BadMoment")) (.ref (He.ga K "BadText")) = some false), decide (PySem.W.kitOne K (.ref (He.ga K "BadMoment")) (.type "ValueError") = some true), xisB K (He.ga K "BadText"), decide (PySem.W.kitOne K (.ref (He.ga K "BadText")) (.ref (He.ga K "BadRules")) = some false), decide (PySem.W.kitOne K (.ref (He.ga K "BadText")) (.ref (He.ga K "BadLand")) = some false), decide (PySem.W.kitOne K (.ref (He.ga K "BadText")) (.ref (He.ga K "BadMoment")) = some false), decide (PySem.W.kitOne K (.ref (He.ga K "BadText")) (.ref (He.ga K "BadText")) = some true), decide (PySem.W.kitOne K (.ref (He.ga K "BadText")) (.type "ValueError") = some true)].all id) = true from T.more) _ (by exact .tail _ (.tail _ (.tail _ (.tail _ (.tail _ (.tail _ (.tail _ (.tail _ (.tail _ (.tail _ (.tail _ (.tail _ (.tail _ (.tail _ (.tail _ (.tail _ (.tail _ (.tail _ (.tail _ (.tail _ (.tail _ (.head _)))))))))))))))))))))))
theorem Tx.xi_BadText (T : Tx K mg) : L2.ExcC K (He.ga K "BadText") := xisB_ok (List.all_eq_true.mp (show ([xclB K (He.ga K "BadRules") [("index" : Str)], supB K (He.ga K "BadRules") sd_BadRules___init__, xclB K (He.ga K "BadText") [("line" : Str), ("word" : Str)], supB K (He.ga K "BadText") sd_BadText___init__, xisB K (He.ga K "BadRules"), decide (PySem.W.kitOne K (.ref (He.ga K "BadRules")) (.ref (He.ga K "BadRules")) = some true), decide (PySem.W.kitOne K (.ref (He.ga K "BadRules")) (.ref (He.ga K "BadLand")) = some false), decide (PySem.W.kitOne K (.ref (He.ga K "BadRules")) (.ref (He.ga K "BadMoment")) = some false), decide (PySem.W.kitOne K (.ref (He.ga K "BadRules")) (.ref (He.ga K "BadText")) = some false), decide (PySem.W.kitOne K (.ref (He.ga K "BadRules")) (.type "ValueError") = some true), xisB K (He.ga K "BadLand"), decide (PySem.W.kitOne K (.ref (He.ga K "BadLand")) (.ref (He.ga K "BadRules")) = some false), decide (PySem.W.kitOne K (.ref (He.ga K "BadLand")) (.ref (He.ga K "BadLand")) = some true), decide (PySem.W.kitOne K (.ref (He.ga K "BadLand")) (.ref (He.ga K "BadMoment")) = some false), decide (PySem.W.kitOne K (.ref (He.ga K "BadLand")) (.ref (He.ga K "BadText")) = some false), decide (PySem.W.kitOne K (.ref (He.ga K "BadLand")) (.type "ValueError") = some true), xisB K (He.ga K "BadMoment"), decide (PySem.W.kitOne K (.ref (He.ga K "BadMoment")) (.ref (He.ga K "BadRules")) = some false), decide (PySem.W.kitOne K (.ref (He.ga K "BadMoment")) (.ref (He.ga K "BadLand")) = some false), decide (PySem.W.kitOne K (.ref (He.ga K "BadMoment")) (.ref (He.ga K "BadMoment")) = some true), decide (PySem.W.kitOne K (.ref (He.ga K "BadMoment")) (.ref (He.ga K "BadText")) = some false), decide (PySem.W.kitOne K (.ref (He.ga K "BadMoment")) (.type "ValueError") = some true), xisB K (He.ga K "BadText"), decide (PySem.W.kitOne K (.ref (He.ga K "BadText")) (.ref (He.ga K "BadRules")) = some false), decide (PySem.W.kitOne K (.ref (He.ga K "BadText")) (.ref (He.ga K "BadLand")) = some false), decide (PySem.W.kitOne K (.ref (He.ga K "BadText")) (.ref (He.ga K "BadMoment")) = some false), decide (PySem.W.kitOne K (.ref (He.ga K "BadText")) (.ref (He.ga K "BadText")) = some true), decide (PySem.W.kitOne K (.ref (He.ga K "BadText")) (.type "ValueError") = some true)].all id) = true from T.more) _ (by exact .tail _ (.tail _ (.tail _ (.tail _ (.tail _ (.tail _ (.tail _ (.tail _ (.tail _ (.tail _ (.tail _ (.tail _ (.tail _ (.tail _ (.tail _ (.tail _ (.tail _ (.tail _ (.tail _ (.tail _ (.tail _ (.tail _ (.head _))))))))))))))))))))))))
theorem Tx.ki_BadText_BadRules (T : Tx K mg) : PySem.W.kitOne K (.ref (He.ga K "BadText")) (.ref (He.ga K "BadRules")) = some false := of_decide_eq_true (List.all_eq_true.mp (show ([xclB K (He.ga K "BadRules") [("index" : Str)], supB K (He.ga K "BadRules") sd_BadRules___init__, xclB K (He.ga K "BadText") [("line" : Str), ("word" : Str)], supB K (He.ga K "BadText") sd_BadText___init__, xisB K (He.ga K "BadRules"), decide (PySem.W.kitOne K (.ref (He.ga K "BadRules")) (.ref (He.ga K "BadRules")) = some true), decide (PySem.W.kitOne K (.ref (He.ga K "BadRules")) (.ref (He.ga K "BadLand")) = some false), decide (PySem.W.kitOne K (.ref (He.ga K "BadRules")) (.ref (He.ga K "BadMoment")) = some false), decide (PySem.W.kitOne K (.ref (He.ga K "BadRules")) (.ref (He.ga K "BadText")) = some false), decide (PySem.W.kitOne K (.ref (He.ga K "BadRules")) (.type "ValueError") = some true), xisB K (He.ga K "BadLand"), decide (PySem.W.kitOne K (.ref (He.ga K "BadLand")) (.ref (He.ga K "BadRules")) = some false), decide (PySem.W.kitOne K (.ref (He.ga K "BadLand")) (.ref (He.ga K "BadLand")) = some true), decide (PySem.W.kitOne K (.ref (He.ga K "BadLand")) (.ref (He.ga K "BadMoment")) = some false), decide (PySem.W.kitOne K (.ref (He.ga K "BadLand")) (.ref (He.ga K "BadText")) = some false), decide (PySem.W.kitOne K (.ref (He.ga K "BadLand")) (.type "ValueError") = some true), xisB K (He.ga K "BadMoment"), decide (PySem.W.kitOne K (.ref (He.ga K "BadMoment")) (.ref (He.ga K "BadRules")) = some false), decide (PySem.W.kitOne K (.ref (He.ga K "BadMoment")) (.ref (He.ga K "BadLand")) = some false), decide (PySem.W.kitOne K (.ref (He.ga K "BadMoment")) (.ref (He.ga K "BadMoment")) = some true), decide (PySem.W.kitOne K (.ref (He.ga K "BadMoment")) (.ref (He.ga K "BadText")) = some false), decide (PySem.W.kitOne K (.ref (He.ga K "BadMoment")) (.type "ValueError") = some true), xisB K (He.ga K "BadText"), decide (PySem.W.kitOne K (.ref (He.ga K "BadText")) (.ref (He.ga K "BadRules")) = some false), decide (PySem.W.kitOne K (.ref (He.ga K "BadText")) (.ref (He.ga K "BadLand")) = some false), decide (PySem.W.kitOne K (.ref (He.ga K "BadText")) (.ref (He.ga K "BadMoment")) = some false), decide (PySem.W.kitOne K (.ref (He.ga K "BadText")) (.ref (He.ga K "BadText")) = some true), decide (PySem.W.kitOne K (.ref (He.ga K "BadText")) (.type "ValueError") = some true)].all id) = true from T.more) _ (by exact .tail _ (.tail _ (.tail _ (.tail _ (.tail _ (.tail _ (.tail _ (.tail _ (.tail _ (.tail _ (.tail _ (.tail _ (.tail _ (.tail _ (.tail _ (.tail _ (.tail _ (.tail _ (.tail _ (.tail _ (.tail _ (.tail _ (.tail _ (.head _)))))))))))))))))))))))))
theorem Tx.ki_BadText_BadLand (T : Tx K mg) : PySem.W.kitOne K (.ref (He.ga K "BadText")) (.ref (He.ga K "BadLand")) = some false := of_decide_eq_true (List.all_eq_true.mp (show ([xclB K (He.ga K "BadRules") [("index" : Str)], supB K (He.ga K "BadRules") sd_BadRules___init__, xclB K (He.ga K "BadText") [("line" : Str), ("word" : Str)], supB K (He.ga K "BadText") sd_BadText___init__, xisB K (He.ga K "BadRules"), decide (PySem.W.kitOne K (.ref (He.ga K "BadRules")) (.ref (He.ga K "BadRules")) = some true), decide (PySem.W.kitOne K (.ref (He.ga K "BadRules")) (.ref (He.ga K "BadLand")) = some false), decide (PySem.W.kitOne K (.ref (He.ga K "BadRules")) (.ref (He.ga K "BadMoment")) = some false), decide (PySem.W.kitOne K (.ref (He.ga K "BadRules")) (.ref (He.ga K "BadText")) = some false), decide (PySem.W.kitOne K (.ref (He.ga K "BadRules")) (.type "ValueError") = some true), xisB K (He.ga K "BadLand"), decide (PySem.W.kitOne K (.ref (He.ga K "BadLand")) (.ref (He.ga K "BadRules")) = some false), decide (PySem.W.kitOne K (.ref (He.ga K "BadLand")) (.ref (He.ga K "BadLand")) = some true), decide (PySem.W.kitOne K (.ref (He.ga K "BadLand")) (.ref (He.ga K "BadMoment")) = some false), decide (PySem.W.kitOne K (.ref (He.ga K "BadLand")) (.ref (He.ga K "BadText")) = some false), decide (PySem.W.kitOne K (.ref (He.ga K "BadLand")) (.type "ValueError") = some true), xisB K (He.ga K "BadMoment"), decide (PySem.W.kitOne K (.ref (He.ga K "BadMoment")) (.ref (He.ga K "BadRules")) = some false), decide (PySem.W.kitOne K (.ref (He.ga K "BadMoment")) (.ref (He.ga K "BadLand")) = some false), decide (PySem.W.kitOne K (.ref (He.ga K "BadMoment")) (.ref (He.ga K "BadMoment")) = some true), decide (PySem.W.kitOne K (.ref (He.ga K "BadMoment")) (.ref (He.ga K "BadText")) = some false), decide (PySem.W.kitOne K (.ref (He.ga K "BadMoment")) (.type "ValueError") = some true), xisB K (He.ga K "BadText"), decide (PySem.W.kitOne K (.ref (He.ga K "BadText")) (.ref (He.ga K "BadRules")) = some false), decide (PySem.W.kitOne K (.ref (He.ga K "BadText")) (.ref (He.ga K "BadLand")) = some false), decide (PySem.W.kitOne K (.ref (He.ga K "BadText")) (.ref (He.ga K "BadMoment")) = some false), decide (PySem.W.kitOne K (.ref (He.ga K "BadText")) (.ref (He.ga K "BadText")) = some true), decide (PySem.W.kitOne K (.ref (He.ga K "BadText")) (.type "ValueError") = some true)].all id) = true from T.more) _ (by exact .tail _ (.tail _ (.tail _ (.tail _ (.tail _ (.tail _ (.tail _ (.tail _ (.tail _ (.tail _ (.tail _ (.tail _ (.tail _ (.tail _ (.tail _ (.tail _ (.tail _ (.tail _ (.tail _ (.tail _ (.tail _ (.tail _ (.tail _ (.tail _ (.head _))))))))))))))))))))))))))
theorem Tx.ki_BadText_BadMoment (T : Tx K mg) : PySem.W.kitOne K (.ref (He.ga K "BadText")) (.ref (He.ga K "BadMoment")) = some false := of_decide_eq_true (List.all_eq_true.mp (show ([xclB K (He.ga K "BadRules") [("index" : Str)], supB K (He.ga K "BadRules") sd_BadRules___init__, xclB K (He.ga K "BadText") [("line" : Str), ("word" : Str)], supB K (He.ga K "BadText") sd_BadText___init__, xisB K (He.ga K "BadRules"), decide (PySem.W.kitOne K (.ref (He.ga K "BadRules")) (.ref (He.ga K "BadRules")) = some true), decide (PySem.W.kitOne K (.ref (He.ga K "BadRules")) (.ref (He.ga K "BadLand")) = some false), decide (PySem.W.kitOne K (.ref (He.ga K "BadRules")) (.ref (He.ga K "BadMoment")) = some false), decide (PySem.W.kitOne K (.ref (He.ga K "BadRules")) (.ref (He.ga K "BadText")) = some false), decide (PySem.W.kitOne K (.ref (He.ga K "BadRules")) (.type "ValueError") = some true), xisB K (He.ga K "BadLand"), decide (PySem.W.kitOne K (.ref (He.ga K "BadLand")) (.ref (He.ga K "BadRules")) = some false), decide (PySem.W.kitOne K (.ref (He.ga K "BadLand")) (.ref (He.ga K "BadLand")) = some true), decide (PySem.W.kitOne K (.ref (He.ga K "BadLand")) (.ref (He.ga K "BadMoment")) = some false), decide (PySem.W.kitOne K (.ref (He.ga K "BadLand")) (.ref (He.ga K "BadText")) = some false), decide (PySem.W.kitOne K (.ref (He.ga K "BadLand")) (.type "ValueError") = some true), xisB K (He.ga K "BadMoment"), decide (PySem.W.kitOne K (.ref (He.ga K "BadMoment")) (.ref (He.ga K "BadRules")) = some false), decide (PySem.W.kitOne K (.ref (He.ga K "BadMoment")) (.ref (He.ga K "BadLand")) = some false), decide (PySem.W.kitOne K (.ref (He.ga K "BadMoment")) (.ref (He.ga K "BadMoment")) = some true), decide (PySem.W.kitOne K (.ref (He.ga K "BadMoment")) (.ref (He.ga K "BadText")) = some false), decide (PySem.W.kitOne K (.ref (He.ga K "BadMoment")) (.type "ValueError") = some true), xisB K (He.ga K "BadText"), decide (PySem.W.kitOne K (.ref (He.ga K "BadText")) (.ref (He.ga K "BadRules")) = some false), decide (PySem.W.kitOne K (.ref (He.ga K "BadText")) (.ref (He.ga K "BadLand")) = some false), decide (PySem.W.kitOne K (.ref (He.ga K "BadText")) (.ref (He.ga K "BadMoment")) = some false), decide (PySem.W.kitOne K (.ref (He.ga K "BadText")) (.ref (He.ga K "BadText")) = some true), decide (PySem.W.kitOne K (.ref (He.ga K "BadText")) (.type "ValueError") = some true)].all id) = true from T.more) _ (by exact .tail _ (.tail _ (.tail _ (.tail _ (.tail _ (.tail _ (.tail _ (.tail _ (.tail _ (.tail _ (.tail _ (.tail _ (.tail _ (.tail _ (.tail _ (.tail _ (.tail _ (.tail _ (.tail _ (.tail _ (.tail _ (.tail _ (.tail _ (.tail _ (.tail _ (.head _)))))))))))))))))))))))))))
theorem Tx.ki_BadText_BadText (T : Tx K mg) : PySem.W.kitOne K (.ref (He.ga K "BadText")) (.ref (He.ga K "BadText")) = some true := of_decide_eq_true (List.all_eq_true.mp (show ([xclB K (He.ga K "BadRules") [("index" : Str)], supB K (He.ga K "BadRules") sd_BadRules___init__, xclB K (He.ga K "BadText") [("line" : Str), ("word" : Str)], supB K (He.ga K "BadText") sd_BadText___init__, xisB K (He.ga K "BadRules"), decide (PySem.W.kitOne K (.ref (He.ga K "BadRules")) (.ref (He.ga K "BadRules")) = some true), decide (PySem.W.kitOne K (.ref (He.ga K "BadRules")) (.ref (He.ga K "BadLand")) = some false), decide (PySem.W.kitOne K (.ref (He.ga K "BadRules")) (.ref (He.ga K "BadMoment")) = some false), decide (PySem.W.kitOne K (.ref (He.ga K "BadRules")) (.ref (He.ga K "BadText")) = some false), decide (PySem.W.kitOne K (.ref (He.ga K "BadRules")) (.type "ValueError") = some true), xisB K (He.ga K "BadLand"), decide (PySem.W.kitOne K (.ref (He.ga K "BadLand")) (.ref (He.ga K "BadRules")) = some false), decide (PySem.W.kitOne K (.ref (He.ga K "BadLand")) (.ref (He.ga K "BadLand")) = some true), decide (PySem.W.kitOne K (.ref (He.ga K "BadLand")) (.ref (He.ga K "BadMoment")) = some false), decide (PySem.W.kitOne K (.ref (He.ga K "BadLand")) (.ref (He.ga K "BadText")) = some false), decide (PySem.W.kitOne K (.ref (He.ga K "BadLand")) (.type "ValueError") = some true), xisB K (He.ga K "BadMoment"), decide (PySem.W.kitOne K (.ref (He.ga K "BadMoment")) (.ref (He.ga K "BadRules")) = some false), decide (PySem.W.kitOne K (.ref (He.ga K "BadMoment")) (.ref (He.ga K "BadLand")) = some false), decide (PySem.W.kitOne K (.ref (He.ga K "BadMoment")) (.ref (He.ga K "BadMoment")) = some true), decide (PySem.W.kitOne K (.ref (He.ga K "BadMoment")) (.ref (He.ga K "BadText")) = some false), decide (PySem.W.kitOne K (.ref (He.ga K "BadMoment")) (.type "ValueError") = some true), xisB K (He.ga K "BadText"), decide (PySem.W.kitOne K (.ref (He.ga K "BadText")) (.ref (He.ga K "BadRules")) = some false), decide (PySem.W.kitOne K (.ref (He.ga K "BadText")) (.ref (He.ga K "BadLand")) = some false), decide (PySem.W.kitOne K (.ref (He.ga K "BadText")) (.ref (He.ga K "BadMoment")) = some false), decide (PySem.W.kitOne K (.ref (He.ga K "BadText")) (.ref (He.ga K "BadText")) = some true), decide (PySem.W.kitOne K (.ref (He.ga K "BadText")) (.type "ValueError") = some true)].all id) = true from T.more) _ (by exact .tail _ (.tail _ (.tail _ (.tail _ (.tail _ (.tail _ (.tail _ (.tail _ (.tail _ (.tail _ (.tail _ (.tail _ (.tail _ (.tail _ (.tail _ (.tail _ (.tail _ (.tail _ (.tail _ (.tail _ (.tail _ (.tail _ (.tail _ (.tail _ (.tail _ (.tail _ (.head _))))))))))))))))))))))))))))
theorem Tx.kv_BadText (T : Tx K mg) : PySem.W.kitOne K (.ref (He.ga K "BadText")) (.type "ValueError") = some true := of_decide_eq_true (List.all_eq_true.mp (show ([xclB K (He.ga K "BadRules") [("index" : Str)], supB K (He.ga K "BadRules") sd_BadRules___init__, xclB K (He.ga K "BadText") [("line" : Str), ("word" : Str)], supB K (He.ga K "BadText") sd_BadText___init__, xisB K (He.ga K "BadRules"), decide (PySem.W.kitOne K (.ref (He.ga K "BadRules")) (.ref (He.ga K "BadRules")) = some true), decide (PySem.W.kitOne K (.ref (He.ga K "BadRules")) (.ref (He.ga K "BadLand")) = some false), decide (PySem.W.kitOne K (.ref (He.ga K "BadRules")) (.ref (He.ga K "BadMoment")) = some false), decide (PySem.W.kitOne K (.ref (He.ga K "BadRules")) (.ref (He.ga K "BadText")) = some false), decide (PySem.W.kitOne K (.ref (He.ga K "BadRules")) (.type "ValueError") = some true), xisB K (He.ga K "BadLand"), decide (PySem.W.kitOne K (.ref (He.ga K "BadLand")) (.ref (He.ga K "BadRules")) = some false), decide (PySem.W.kitOne K (.ref (He.ga K "BadLand")) (.ref (He.ga K "BadLand")) = some true), decide (PySem.W.kitOne K (.ref (He.ga K "BadLand")) (.ref (He.ga K "BadMoment")) = some false), decide (PySem.W.kitOne K (.ref (He.ga K "BadLand")) (.ref (He.ga K "BadText")) = some false), decide (PySem.W.kitOne K (.ref (He.ga K "BadLand")) (.type "ValueError") = some true), xisB K (He.ga K "BadMoment"), decide (PySem.W.kitOne K (.ref (He.ga K "BadMoment")) (.ref (He.ga K "BadRules")) = some false), decide (PySem.W.kitOne K (.ref (He.ga K "BadMoment")) (.ref (He.ga K "BadLand")) = some false), decide (PySem.W.kitOne K (.ref (He.ga K "BadMoment")) (.ref (He.ga K "BadMoment")) = some true), decide (PySem.W.kitOne K (.ref (He.ga K "BadMoment")) (.ref (He.ga K "BadText")) = some false), decide (PySem.W.kitOne K (.ref (He.ga K "BadMoment")) (.type "ValueError") = some true), xisB K (He.ga K "BadText"), decide (PySem.W.kitOne K (.ref (He.ga K "BadText")) (.ref (He.ga K "BadRules")) = some false), decide (PySem.W.kitOne K (.ref (He.ga K "BadText")) (.ref (He.ga K "BadLand")) = some false), decide (PySem.W.kitOne K (.ref (He.ga K "BadText")) (.ref (He.ga K "BadMoment")) = some false), decide (PySem.W.kitOne K (.ref (He.ga K "BadText")) (.ref (He.ga K "BadText")) = some true), decide (PySem.W.kitOne K (.ref (He.ga K "BadText")) (.type "ValueError") = some true)].all id) = true from T.more) _ (by exact .tail _ (.tail _ (.tail _ (.tail _ (.tail _ (.tail _ (.tail _ (.tail _ (.tail _ (.tail _ (.tail _ (.tail _ (.tail _ (.tail _ (.tail _ (.tail _ (.tail _ (.tail _ (.tail _ (.tail _ (.tail _ (.tail _ (.tail _ (.tail _ (.tail _ (.tail _ (.tail _ (.head _)))))))))))))))))))))))))))))
theorem Tx.sx_BadRules (T : Tx K mg) : XclC K (He.ga K "BadRules") [("index" : Str)] := xclB_ok (List.all_eq_true.mp (show ([xclB K (He.ga K "BadRules") [("index" : Str)], supB K (He.ga K "BadRules") sd_BadRules___init__, xclB K (He.ga K "BadText") [("line" : Str), ("word" : Str)], supB K (He.ga K "BadText") sd_BadText___init__, xisB K (He.ga K "BadRules"), decide (PySem.W.kitOne K (.ref (He.ga K "BadRules")) (.ref (He.ga K "BadRules")) = some true), decide (PySem.W.kitOne K (.ref (He.ga K "BadRules")) (.ref (He.ga K "BadLand")) = some false), decide (PySem.W.kitOne K (.ref (He.ga K "BadRules")) (.ref (He.ga K "BadMoment")) = some false), decide (PySem.W.kitOne K (.ref (He.ga K "BadRules")) (.ref (He.ga K "BadText")) = some false), decide (PySem.W.kitOne K (.ref (He.ga K "BadRules")) (.type "ValueError") = some true), xisB K (He.ga K "BadLand"), decide (PySem.W.kitOne K (.ref (He.ga K "BadLand")) (.ref (He.ga K "BadRules")) = some false), decide (PySem.W.kitOne K (.ref (He.ga K "BadLand")) (.ref (He.ga K "BadLand")) = some true), decide (PySem.W.kitOne K (.ref (He.ga K "BadLand")) (.ref (He.ga K "BadMoment")) = some false), decide (PySem.W.kitOne K (.ref (He.ga K "BadLand")) (.ref (He.ga K "BadText")) = some false), decide (PySem.W.kitOne K (.ref (He.ga K "BadLand")) (.type "ValueError") = some true), xisB K (He.ga K "BadMoment"), decide (PySem.W.kitOne K (.ref (He.ga K "BadMoment")) (.ref (He.ga K "BadRules")) = some false), decide (PySem.W.kitOne K (.ref (He.ga K "BadMoment")) (.ref (He.ga K "BadLand")) = some false), decide (PySem.W.kitOne K (.ref (He.ga K "BadMoment")) (.ref (He.ga K "BadMoment")) = some true), decide (PySem.W.kitOne K (.ref (He.ga K "BadMoment")) (.ref (He.ga K "BadText")) = some false), decide (PySem.W.kitOne K (.ref (He.ga K "BadMoment")) (.type "ValueError") = some true), xisB K (He.ga K "BadText"), decide (PySem.W.kitOne K (.ref (He.ga K "BadText")) (.ref (He.ga K "BadRules")) = some false), decide (PySem.W.kitOne K (.ref (He.ga K "BadText")) (.ref (He.ga K "BadLand")) = some false), decide (PySem.W.kitOne K (.ref (He.ga K "BadText")) (.ref (He.ga K "BadMoment")) = some false), decide (PySem.W.kitOne K (.ref (He.ga K "BadText")) (.ref (He.ga K "BadText")) = some true), decide (PySem.W.kitOne K (.ref (He.ga K "BadText")) (.type "ValueError") = some true)].all id) = true from T.more) _ (by exact .head _))
theorem Tx.su_BadRules (T : Tx K mg) : ∃ (fd : FuncData) (cl : List (Str × Addr)) (cA : Addr), SupC K mg (He.ga K "BadRules") (He.ma K (He.ga K "BadRules") "__init__") ⟨"__init__", "BadRules.__init__", defArgs s_BadRules___init__, defBody s_BadRules___init__, defScope s_BadRules___init__, cl, cA⟩ fd := by
  obtain ⟨w, h, X, G, c⟩ := T.ex
  exact supC_of (d := sd_BadRules___init__) X G rfl rfl (c.sup 0 rfl) (List.all_eq_true.mp (show ([xclB K (He.ga K "BadRules") [("index" : Str)], supB K (He.ga K "BadRules") sd_BadRules___init__, xclB K (He.ga K "BadText") [("line" : Str), ("word" : Str)], supB K (He.ga K "BadText") sd_BadText___init__, xisB K (He.ga K "BadRules"), decide (PySem.W.kitOne K (.ref (He.ga K "BadRules")) (.ref (He.ga K "BadRules")) = some true), decide (PySem.W.kitOne K (.ref (He.ga K "BadRules")) (.ref (He.ga K "BadLand")) = some false), decide (PySem.W.kitOne K (.ref (He.ga K "BadRules")) (.ref (He.ga K "BadMoment")) = some false), decide (PySem.W.kitOne K (.ref (He.ga K "BadRules")) (.ref (He.ga K "BadText")) = some false), decide (PySem.W.kitOne K (.ref (He.ga K "BadRules")) (.type "ValueError") = some true), xisB K (He.ga K "BadLand"), decide (PySem.W.kitOne K (.ref (He.ga K "BadLand")) (.ref (He.ga K "BadRules")) = some false), decide (PySem.W.kitOne K (.ref (He.ga K "BadLand")) (.ref (He.ga K "BadLand")) = some true), decide (PySem.W.kitOne K (.ref (He.ga K "BadLand")) (.ref (He.ga K "BadMoment")) = some false), decide (PySem.W.kitOne K (.ref (He.ga K "BadLand")) (.ref (He.ga K "BadText")) = some false), decide (PySem.W.kitOne K (.ref (He.ga K "BadLand")) (.type "ValueError") = some true), xisB K (He.ga K "BadMoment"), decide (PySem.W.kitOne K (.ref (He.ga K "BadMoment")) (.ref (He.ga K "BadRules")) = some false), decide (PySem.W.kitOne K (.ref (He.ga K "BadMoment")) (.ref (He.ga K "BadLand")) = some false), decide (PySem.W.kitOne K (.ref (He.ga K "BadMoment")) (.ref (He.ga K "BadMoment")) = some true), decide (PySem.W.kitOne K (.ref (He.ga K "BadMoment")) (.ref (He.ga K "BadText")) = some false), decide (PySem.W.kitOne K (.ref (He.ga K "BadMoment")) (.type "ValueError") = some true), xisB K (He.ga K "BadText"), decide (PySem.W.kitOne K (.ref (He.ga K "BadText")) (.ref (He.ga K "BadRules")) = some false), decide (PySem.W.kitOne K (.ref (He.ga K "BadText")) (.ref (He.ga K "BadLand")) = some false), decide (PySem.W.kitOne K (.ref (He.ga K "BadText")) (.ref (He.ga K "BadMoment")) = some false), decide (PySem.W.kitOne K (.ref (He.ga K "BadText")) (.ref (He.ga K "BadText")) = some true), decide (PySem.W.kitOne K (.ref (He.ga K "BadText")) (.type "ValueError") = some true)].all id) = true from T.more) _ (by exact .tail _ (.head _))) T.sx_BadRules
theorem hks_BadRules___init__ : (defScope s_BadRules___init__).names.lookup ("super" : Str) = some .globalImplicit := by decide +kernel
theorem ok_BadRules___init__ {P : Program} [pf : PFile P] {w : World} {base : Heap} (T : Tx K mg) : HasX P w K mg base 1 "BadRules" (He.ga K "BadRules") P_BadRules___init__ [("index" : Str)] := by
  obtain ⟨fd, cl, cA, SC⟩ := T.su_BadRules
  refine ⟨T.sx_BadRules, fd, T.g_BadRules, fn_sup1 SC T.sx_BadRules.o sc_BadRules___init__ rfl rfl hks_BadRules___init__ (fun env e => by show env.scope.names.lookup _ = _; rw [e]; exact hks_BadRules___init__) (T.sx_BadRules.no _ (by simp)) rfl rfl rfl (fun env _ => rfl) (fun _ => rfl) (fun _ => rfl), ?_⟩
  obtain ⟨oc, od, osl, doc, pm, an, ct, lk, rfl⟩ := SC.lk
  exact .all fun us hl => match us, hl with | [_, _], _ => rfl
theorem Tx.sx_BadText (T : Tx K mg) : XclC K (He.ga K "BadText") [("line" : Str), ("word" : Str)] := xclB_ok (List.all_eq_true.mp (show ([xclB K (He.ga K "BadRules") [("index" : Str)], supB K (He.ga K "BadRules") sd_BadRules___init__, xclB K (He.ga K "BadText") [("line" : Str), ("word" : Str)], supB K (He.ga K "BadText") sd_BadText___init__, xisB K (He.ga K "BadRules"), decide (PySem.W.kitOne K (.ref (He.ga K "BadRules")) (.ref (He.ga K "BadRules")) = some true), decide (PySem.W.kitOne K (.ref (He.ga K "BadRules")) (.ref (He.ga K "BadLand")) = some false), decide (PySem.W.kitOne K (.ref (He.ga K "BadRules")) (.ref (He.ga K "BadMoment")) = some false), decide (PySem.W.kitOne K (.ref (He.ga K "BadRules")) (.ref (He.ga K "BadText")) = some false), decide (PySem.W.kitOne K (.ref (He.ga K "BadRules")) (.type "ValueError") = some true), xisB K (He.ga K "BadLand"), decide (PySem.W.kitOne K (.ref (He.ga K "BadLand")) (.ref (He.ga K "BadRules")) = some false), decide (PySem.W.kitOne K (.ref (He.ga K "BadLand")) (.ref (He.ga K "BadLand")) = some true), decide (PySem.W.kitOne K (.ref (He.ga K "BadLand")) (.ref (He.ga K "BadMoment")) = some false), decide (PySem.W.kitOne K (.ref (He.ga K "BadLand")) (.ref (He.ga K "BadText")) = some false), decide (PySem.W.kitOne K (.ref (He.ga K "BadLand")) (.type "ValueError") = some true), xisB K (He.ga K "BadMoment"), decide (PySem.W.kitOne K (.ref (He.ga K "BadMoment")) (.ref (He.ga K "BadRules")) = some false), decide (PySem.W.kitOne K (.ref (He.ga K "BadMoment")) (.ref (He.ga K "BadLand")) = some false), decide (PySem.W.kitOne K (.ref (He.ga K "BadMoment")) (.ref (He.ga K "BadMoment")) = some true), decide (PySem.W.kitOne K (.ref (He.ga K "BadMoment")) (.ref (He.ga K "BadText")) = some false), decide (PySem.W.kitOne K (.ref (He.ga K "BadMoment")) (.type "ValueError") = some true), xisB K (He.ga K "BadText"), decide (PySem.W.kitOne K (.ref (He.ga K "BadText")) (.ref (He.ga K "BadRules")) = some false), decide (PySem.W.kitOne K (.ref (He.ga K "BadText")) (.ref (He.ga K "BadLand")) = some false), decide (PySem.W.kitOne K (.ref (He.ga K "BadText")) (.ref (He.ga K "BadMoment")) = some false), decide (PySem.W.kitOne K (.ref (He.ga K "BadText")) (.ref (He.ga K "BadText")) = some true), decide (PySem.W.kitOne K (.ref (He.ga K "BadText")) (.type "ValueError") = some true)].all id) = true from T.more) _ (by exact .tail _ (.tail _ (.head _))))
theorem Tx.su_BadText (T : Tx K mg) : ∃ (fd : FuncData) (cl : List (Str × Addr)) (cA : Addr), SupC K mg (He.ga K "BadText") (He.ma K (He.ga K "BadText") "__init__") ⟨"__init__", "BadText.__init__", defArgs s_BadText___init__, defBody s_BadText___init__, defScope s_BadText___init__, cl, cA⟩ fd := by
  obtain ⟨w, h, X, G, c⟩ := T.ex
  exact supC_of (d := sd_BadText___init__) X G rfl rfl (c.sup 1 rfl) (List.all_eq_true.mp (show ([xclB K (He.ga K "BadRules") [("index" : Str)], supB K (He.ga K "BadRules") sd_BadRules___init__, xclB K (He.ga K "BadText") [("line" : Str), ("word" : Str)], supB K (He.ga K "BadText") sd_BadText___init__, xisB K (He.ga K "BadRules"), decide (PySem.W.kitOne K (.ref (He.ga K "BadRules")) (.ref (He.ga K "BadRules")) = some true), decide (PySem.W.kitOne K (.ref (He.ga K "BadRules")) (.ref (He.ga K "BadLand")) = some false), decide (PySem.W.kitOne K (.ref (He.ga K "BadRules")) (.ref (He.ga K "BadMoment")) = some false), decide (PySem.W.kitOne K (.ref (He.ga K "BadRules")) (.ref (He.ga K "BadText")) = some false), decide (PySem.W.kitOne K (.ref (He.ga K "BadRules")) (.type "ValueError") = some true), xisB K (He.ga K "BadLand"), decide (PySem.W.kitOne K (.ref (He.ga K "BadLand")) (.ref (He.ga K "BadRules")) = some false), decide (PySem.W.kitOne K (.ref (He.ga K "BadLand")) (.ref (He.ga K "BadLand")) = some true), decide (PySem.W.kitOne K (.ref (He.ga K "BadLand")) (.ref (He.ga K "BadMoment")) = some false), decide (PySem.W.kitOne K (.ref (He.ga K "BadLand")) (.ref (He.ga K "BadText")) = some false), decide (PySem.W.kitOne K (.ref (He.ga K "BadLand")) (.type "ValueError") = some true), xisB K (He.ga K "BadMoment"), decide (PySem.W.kitOne K (.ref (He.ga K "BadMoment")) (.ref (He.ga K "BadRules")) = some false), decide (PySem.W.kitOne K (.ref (He.ga K "BadMoment")) (.ref (He.ga K "BadLand")) = some false), decide (PySem.W.kitOne K (.ref (He.ga K "BadMoment")) (.ref (He.ga K "BadMoment")) = some true), decide (PySem.W.kitOne K (.ref (He.ga K "BadMoment")) (.ref (He.ga K "BadText")) = some false), decide (PySem.W.kitOne K (.ref (He.ga K "BadMoment")) (.type "ValueError") = some true), xisB K (He.ga K "BadText"), decide (PySem.W.kitOne K (.ref (He.ga K "BadText")) (.ref (He.ga K "BadRules")) = some false), decide (PySem.W.kitOne K (.ref (He.ga K "BadText")) (.ref (He.ga K "BadLand")) = some false), decide (PySem.W.kitOne K (.ref (He.ga K "BadText")) (.ref (He.ga K "BadMoment")) = some false), decide (PySem.W.kitOne K (.ref (He.ga K "BadText")) (.ref (He.ga K "BadText")) = some true), decide (PySem.W.kitOne K (.ref (He.ga K "BadText")) (.type "ValueError") = some true)].all id) = true from T.more) _ (by exact .tail _ (.tail _ (.tail _ (.head _))))) T.sx_BadText
theorem hks_BadText___init__ : (defScope s_BadText___init__).names.lookup ("super" : Str) = some .globalImplicit := by decide +kernel
theorem ok_BadText___init__ {P : Program} [pf : PFile P] {w : World} {base : Heap} (T : Tx K mg) : HasX P w K mg base 1 "BadText" (He.ga K "BadText") P_BadText___init__ [("line" : Str), ("word" : Str)] := by
  obtain ⟨fd, cl, cA, SC⟩ := T.su_BadText
  refine ⟨T.sx_BadText, fd, T.g_BadText, fn_sup2 SC T.sx_BadText.o sc_BadText___init__ rfl rfl hks_BadText___init__ (fun env e => by show env.scope.names.lookup _ = _; rw [e]; exact hks_BadText___init__) (T.sx_BadText.no _ (by simp)) (T.sx_BadText.no _ (by simp)) rfl rfl rfl rfl rfl (fun env _ => rfl) (fun _ => rfl) (fun _ => rfl) (fun _ => rfl), ?_⟩
  obtain ⟨oc, od, osl, doc, pm, an, ct, lk, rfl⟩ := SC.lk
  exact .all fun us hl => match us, hl with | [_, _, _], _ => rfl
end
/-! ### the top's run -/
abbrev R0 : PySem.W.OpenRow := PySem.W.OpenLaw.row PySem.Challenge.rw_hourbells_k13_errors_apart
abbrev hk0 : PySem.W.Hook := hookZ 5 faL fnL sdL exL
def ob0 (s : PySem.W.SharedT) : AlZ := obsZ 5 faL fnL sdL exL (HandSHeadRun.getT s)
theorem ob0_eq (s : PySem.W.SharedT) : ob0 s = hk0.obs s.abs := obsZ_eq (HandSHeadRun.getT_eq s)
abbrev loose0 : List Str := [("BellError" : Str), ("BadRules" : Str), ("BadLand" : Str), ("BadMoment" : Str), ("BadText" : Str), ("_law_random" : Str), ("_law_below" : Str), ("_law_pick" : Str), ("_law_equal" : Str), ("_law_thrown" : Str), ("_law_fields" : Str)]
set_option maxHeartbeats 0 in
theorem run0 (w : World) : HandSHeadRun.RunEq R0 (PySem.W.view R0.prog [13]) hk0 ob0 4000 loose0 w := by
  intro os
  kernel_rfl
local macro_rules | `(tactic| walk_at "name") => `(tactic| with_reducible refine we_name (hN := by with_unfolding_all exact rfl) (hr := by with_unfolding_all exact rfl) (hv := by with_unfolding_all first | exact Or.inl rfl | exact Or.inr (Or.inl rfl) | exact Or.inr (Or.inr rfl)) (hd := by with_unfolding_all exact rfl) (hcd := by with_unfolding_all exact rfl) ?_)
local macro_rules | `(tactic| walk_at "bin") => `(tactic| with_reducible first
  | refine wo_eqI ?_
  | refine wo_neI ?_
  | refine wo_eqS ?_
  | refine wo_neS ?_
  | refine wo_lt ?_
  | refine wo_le ?_
  | refine wo_gt ?_
  | refine wo_ge ?_
  | refine wo_in (s2 := by with_unfolding_all exact Or.inr rfl) (f := by with_unfolding_all exact rfl) (fl := by with_unfolding_all first | assumption | exact rfl) ?_
  | refine wo_notIn (s2 := by with_unfolding_all exact Or.inr rfl) (f := by with_unfolding_all exact rfl) (fl := by with_unfolding_all first | assumption | exact rfl) ?_
  | refine wo_inDic (by with_unfolding_all exact L2.hu_of (by assumption)) (by with_unfolding_all first | exact Sn.dic (by assumption) | exact Sn.dic cel_0 | exact Sn.dic cel_1 | constructor) (by with_unfolding_all exact rfl) ?_
  | refine wo_notInDic (by with_unfolding_all exact L2.hu_of (by assumption)) (by with_unfolding_all first | exact Sn.dic (by assumption) | exact Sn.dic cel_0 | exact Sn.dic cel_1 | constructor) (by with_unfolding_all exact rfl) ?_
  | refine wo_isN ?_
  | refine wo_notN ?_
  | refine wo_add ?_
  | refine wo_mulW (cmulW_of (by with_unfolding_all assumption) (by with_unfolding_all assumption)) ?_
  | refine wo_rep01 ?_
  | refine wo_pow (by with_unfolding_all exact And.intro (by decide) (And.intro (by decide) (by decide))) ?_
  | refine wo_mul (by with_unfolding_all first | exact Or.inr (And.intro (by decide) (by decide)) | exact Or.inl (And.intro (by decide) (by decide)) | exact Or.inr (And.intro (by omega) (by omega)) | exact Or.inl (And.intro (by omega) (by omega))) ?_
  | refine wo_div (cdiv_of (by first | assumption | decide | omega) (by with_unfolding_all first | assumption | exact And.intro (by decide) (by decide))) ?_
  | refine wo_eqD (by with_unfolding_all exact L2.Room.units (by assumption)) (by with_unfolding_all constructor) (by with_unfolding_all constructor) (by first | exact Pl.pn (Pl.mono (by assumption) (by decide)) | (simp [Pn]; done) | fail) (by first | exact Pl.pn (Pl.mono (by assumption) (by decide)) | (simp [Pn]; done) | fail) ?_
  | refine wo_neD (by with_unfolding_all exact L2.Room.units (by assumption)) (by with_unfolding_all constructor) (by with_unfolding_all constructor) (by first | exact Pl.pn (Pl.mono (by assumption) (by decide)) | (simp [Pn]; done) | fail) (by first | exact Pl.pn (Pl.mono (by assumption) (by decide)) | (simp [Pn]; done) | fail) ?_
  | refine wo_catT (by with_unfolding_all first | assumption | exact Nat.le_of_ble_eq_true rfl) ?_
  | refine wo_catS (by with_unfolding_all first | assumption | exact Nat.le_of_ble_eq_true rfl) ?_
  | refine wo_sub ?_
  | refine wo_iadd ?_
  | refine wo_mod (by with_unfolding_all first | assumption | decide | omega) ?_)
local macro_rules | `(tactic| walk_at "put") => `(tactic| with_reducible first
  | refine wset_dicE (by with_unfolding_all exact L2.hu_of (by assumption)) (by with_unfolding_all first | assumption | exact cel_0 | exact cel_1) (by with_unfolding_all exact rfl) (by with_unfolding_all assumption) (by with_unfolding_all assumption) (by with_unfolding_all first | exact set_0 | exact set_1 | exact rfl) ?_
  | refine wset_lstE (by with_unfolding_all first | assumption | exact cel_s (by assumption) | exact cel_0 | exact cel_1) (by with_unfolding_all first | assumption | exact ixN_0 | exact ixN_1 | exact rfl) (by with_unfolding_all first | exact List.set_set .. | exact set_0 | exact set_1 | exact rfl) ?_)
local macro_rules | `(tactic| walk_at "call") => `(tactic| fail)
local macro_rules | `(tactic| walk_at "global") => `(tactic| fail)
local macro_rules | `(tactic| walk_at "stmt") => `(tactic| with_reducible first
  | refine ws_ret ?_
  | refine ws_if ?_
  | refine ws_retN ?_
  | refine ws_expr (hs := by with_unfolding_all exact rfl) ?_
  | refine ws_sub (hs := by with_unfolding_all exact rfl) (hw := by with_unfolding_all exact rfl) (ha := by with_unfolding_all (intro _; exact rfl)) (h1 := by with_unfolding_all exact rfl) ?_
  | refine ws_pass ?_
  | refine ws_break ?_
  | refine ws_continue ?_)
local macro_rules | `(tactic| walk_at "expr") => `(tactic| with_reducible first
  | refine we_int ?_
  | refine we_str ?_
  | refine we_revT ?_
  | refine we_slice ?_
  | refine we_ix (hs := by with_unfolding_all (intro _ _; exact rfl)) ?_
  | refine we_cmp (hm := by with_unfolding_all first | exact nomark _ | exact rfl) ?_
  | refine we_bin ?_
  | refine we_not ?_
  | refine we_un ?_
  | refine we_and ?_
  | refine we_or ?_
  | refine we_one ?_
  | refine we_ifExp ?_
  | refine we_chain (hm := by with_unfolding_all exact rfl) ?_
  | refine we_tup ?_
  | refine we_lst ?_
  | refine we_bl ?_
  | refine we_non ?_)
local macro_rules | `(tactic| walk_at "fun") => `(tactic| with_reducible first
  | refine wc_isi (s1 := by with_unfolding_all constructor) (h := by with_unfolding_all exact rfl) (hk := by with_unfolding_all exact rfl) ?_
  | refine wc_len (s1 := by with_unfolding_all first | exact Sn.lst (by with_unfolding_all first | assumption | exact cel_s (by assumption) | exact cel_0 | exact cel_1) | constructor) (h := by with_unfolding_all exact rfl) (hz := by with_unfolding_all first | assumption | exact Nat.le_of_ble_eq_true rfl) ?_
  | refine wc_int ?_
  | refine wc_all (bs := _) (by with_unfolding_all exact rfl) (by with_unfolding_all constructor) ?_
  | refine wc_any (bs := _) (by with_unfolding_all exact rfl) (by with_unfolding_all constructor) ?_
  | refine wc_tuple (by with_unfolding_all constructor) ?_
  | refine wc_intB ?_
  | refine wc_strS ?_
  | refine wc_strI (by with_unfolding_all first | assumption | decide) ?_
  | refine wc_intS (by with_unfolding_all assumption) (by with_unfolding_all assumption) ?_
  | refine wc_listT ?_
  | refine wc_max2 (by with_unfolding_all exact rfl) ?_
  | refine wc_maxL2 (by with_unfolding_all exact rfl) ?_
  | refine wc_minL2 (by with_unfolding_all exact rfl) ?_
  | refine wc_abs ?_)
local macro_rules | `(tactic| walk_at "if") => `(tactic| first
  | refine iteP (by with_unfolding_all exact rfl) ?_
  | refine iteN (by with_unfolding_all exact Bool.false_ne_true) ?_
  | refine iteDP (by assumption) ?_
  | refine iteDN (by assumption) ?_
  | refine iteNP (by assumption) ?_
  | refine iteNN (by assumption) ?_
  | refine iteDN (by simp only [List.length_cons]; omega) ?_
  | refine iteP (by assumption) ?_
  | refine iteN (by assumption) ?_
  | refine iteP (by first | (simp [deq, deqs]; done) | fail) ?_
  | refine iteN (by first | (simp [deq, deqs]; done) | fail) ?_)
local macro_rules | `(tactic| walk_at "e") => `(tactic| first
  | ((with_reducible show WE _ _ _ (.Name _ _) _); first | walk_at "n" | walk_at "global" | walk_at "name")
  | ((with_reducible show WE _ _ _ (.Call (.Name _ _) _ _ _) _); walk_at "call")
  | ((with_reducible show WE _ _ _ (.Call (.Attribute _ _ _) _ _ _) _); walk_at "meth")
  | ((with_reducible show WM _ _ _ _ _ _); walk_at "wm")
  | ((with_reducible show And (StrW _) _); refine And.intro (Exists.intro _ rfl) ?_)
  | ((with_reducible show And (MethW _ _ _ _) _); refine And.intro (by with_unfolding_all first | exact Exists.intro _ (Exists.intro _ (And.intro Ob.im (by decide))) | exact Exists.intro _ (Exists.intro _ (And.intro (Ob.ce (by assumption)) (by decide))) | exact Exists.intro _ (Exists.intro _ (And.intro (Ob.ce cel_0) (by decide))) | exact Exists.intro _ (Exists.intro _ (And.intro (Ob.ce rfl) (by decide)))) ?_)
  | ((with_reducible show And (LstW _ _) _); refine And.intro (Exists.intro _ (by with_unfolding_all first | exact Sn.lst (by with_unfolding_all first | assumption | exact cel_s (by assumption) | exact cel_0 | exact cel_1) | constructor)) ?_)
  | ((with_reducible show WE _ _ _ (.ListComp _ _ _ _) _); walk_at "lc")
  | ((with_reducible show WE _ _ _ (.Attribute _ _ _) _); walk_at "fld")
  | ((with_reducible show WE _ _ _ _ _); walk_at "expr")
  | ((with_reducible show WT _ _ _ _ _); with_reducible first
     | refine wt_cmp (hm := by with_unfolding_all first | exact nomark _ | exact rfl) ?_
     | refine wt_not ?_
     | refine wt_and ?_
     | refine wt_or ?_
     | refine wt_val (he := by with_unfolding_all (intro _; exact rfl)) ?_)
  | ((with_reducible show WW _ _ _ _ _); with_reducible first
     | refine ww_and ?_
     | refine ww_or ?_
     | refine ww_and1 ?_
     | refine ww_or1 ?_)
  | ((with_reducible show WA _ _ _ _ _); with_reducible first
     | refine wa_nil ?_
     | refine wa_star (hs := by with_unfolding_all exact rfl) ?_
     | refine wa_cons (hs := by with_unfolding_all exact rfl) ?_)
  | ((with_reducible show WO _ _ _ _ _ _); walk_at "bin")
  | ((with_reducible show WSet _ _ _ _ _ _); walk_at "put")
  | ((with_reducible show WSs _ _ _ _ _ _); with_reducible first
     | refine wss_one ?_
     | refine wss_cons ?_
     | refine wss_nil ?_)
  | ((with_reducible show WS _ _ _ _ (.Assign [.Name _ _] (.ListComp _ _ _ _) _) _); walk_at "lset")
  | ((with_reducible show WS _ _ _ _ (.Assign [.Name _ _] (.List [] _) _) _); walk_at "set"; refine we_lstC ?_)
  | ((with_reducible show WS _ _ _ _ (.Assign [.Name _ _] _ _) _); walk_at "set")
  | ((with_reducible show WS _ _ _ _ (.Assign [.Tuple _ _ _] _ _) _); walk_at "par")
  | ((with_reducible show WS _ _ _ _ (.For _ _ _ _ _) _); walk_at "for")
  | ((with_reducible show WS _ _ _ _ (.AugAssign (.Name _ _) _ _ _) _); walk_at "aug")
  | ((with_reducible show WS _ _ _ _ (.Assign [.Attribute _ _ _] (.List [] _) _) _); walk_at "fset"; refine we_lstC ?_)
  | ((with_reducible show WS _ _ _ _ (.Assign [.Attribute _ _ _] _ _) _); walk_at "fset")
  | ((with_reducible show WI _ _ _ _ (.Call _ _ _ _) _); walk_at "wi")
  | ((with_reducible show WS _ _ _ _ (.Raise _ _ _) _); walk_at "raise")
  | ((with_reducible show WS _ _ _ _ _ _); walk_at "stmt")
  | ((with_reducible show WU _ _ _ _ _); with_reducible refine wu_neg ?_)
  | ((with_reducible show WIx _ _ _ _ _); walk_at "ix")
  | ((with_reducible show WC _ _ _ _ _); walk_at "fun")
  | ((with_reducible show WPo _ _ _ none _); with_reducible refine wpo_none ?_)
  | ((with_reducible show WPo _ _ _ (some _) _); with_reducible refine wpo_some ?_)
  | ((with_reducible show WSl _ _ _ _ _ _); with_reducible first
     | refine wsl_tup ?_
     | refine wsl_lst (by with_unfolding_all first | exact Sn.lst (by with_unfolding_all first | assumption | exact cel_s (by assumption) | exact cel_0 | exact cel_1) | constructor) ?_)
  | ((with_reducible show ite _ _ _); walk_at "if")
  | ((with_reducible show Exists _); with_reducible first
    | refine Exists.intro _ (And.intro rfl ?_)
    | refine Exists.intro _ (And.intro (by with_unfolding_all exact rfl) (And.intro (by with_unfolding_all first | exact Nat.le_of_ble_eq_true rfl | decide) ?_))
    | refine Exists.intro _ (And.intro (by with_unfolding_all exact rfl) ?_)
    | refine Exists.intro _ (And.intro (by with_unfolding_all first | exact Exists.intro _ (Exists.intro _ (And.intro Ob.im rfl)) | exact Exists.intro _ (Exists.intro _ (And.intro (Ob.ce (by assumption)) rfl)) | exact Exists.intro _ (Exists.intro _ (And.intro (Ob.ce cel_0) rfl))) ?_))
  | ((with_reducible show And (@LE.le Int _ _ _) (And (@LT.lt Int _ _ _) _)); refine And.intro (by omega) (And.intro (by omega) ?_))
  | ((with_reducible show And (And (@LE.le Int _ _ _) _) _); refine And.intro (by omega) ?_)
  | ((with_reducible show And (@Eq Nat _ _) _); refine And.intro (by with_unfolding_all exact rfl) ?_)
  | ((with_reducible show And _ _); refine And.intro (by with_unfolding_all first | exact Nat.le_of_ble_eq_true rfl | decide) ?_)
  | (with_reducible refine rtok_same ?_)
  | assumption)
local macro_rules | `(tactic| walk_at "meth") => `(tactic| first
  | ((with_reducible show WE _ _ _ (.Call (.Attribute _ (Str.ofString "join") _) [_] [] _) _); with_reducible refine we_sm F.slot_str_join F.type_str_join (by with_unfolding_all exact rfl) (by with_unfolding_all exact rfl) (by with_unfolding_all exact rfl) (by with_unfolding_all exact rfl) ?_)
  | ((with_reducible show WE _ _ _ (.Call (.Attribute _ (Str.ofString "split") _) [_] [] _) _); with_reducible refine we_sm F.slot_str_split F.type_str_split (by with_unfolding_all exact rfl) (by with_unfolding_all exact rfl) (by with_unfolding_all exact rfl) (by with_unfolding_all exact rfl) ?_)
  | ((with_reducible show WE _ _ _ (.Call (.Attribute _ (Str.ofString "append") _) [_] [] _) _); with_reducible refine we_lm F.slot_list_append (by with_unfolding_all exact rfl) (by with_unfolding_all exact rfl) (by with_unfolding_all exact rfl) (by with_unfolding_all exact rfl) (by with_unfolding_all exact rfl) (by with_unfolding_all exact rfl) ?_)
  | ((with_reducible show WE _ _ _ (.Call (.Attribute _ (Str.ofString "extend") _) [_] [] _) _); with_reducible refine we_lm F.slot_list_extend (by with_unfolding_all exact rfl) (by with_unfolding_all exact rfl) (by with_unfolding_all exact rfl) (by with_unfolding_all exact rfl) (by with_unfolding_all exact rfl) (by with_unfolding_all exact rfl) ?_)
  | ((with_reducible show WE _ _ _ (.Call (.Attribute _ (Str.ofString "pop") _) [_] [] _) _); with_reducible refine we_lm F.slot_list_pop (by with_unfolding_all exact rfl) (by with_unfolding_all exact rfl) (by with_unfolding_all exact rfl) (by with_unfolding_all exact rfl) (by with_unfolding_all exact rfl) (by with_unfolding_all exact rfl) ?_)
  | ((with_reducible show WE _ _ _ (.Call (.Attribute _ (Str.ofString "pop") _) [] [] _) _); with_reducible refine we_lm0 F.slot_list_pop (by with_unfolding_all exact rfl) (by with_unfolding_all exact rfl) (by with_unfolding_all exact rfl) ?_))
local macro_rules | `(tactic| walk_at "wm") => `(tactic| with_reducible first
  | refine wm_appendE (by with_unfolding_all first | assumption | exact cel_s (by assumption) | exact cel_0 | exact cel_1) (by with_unfolding_all first | assumption | omega) (by with_unfolding_all first | exact List.set_set .. | exact set_0 | exact set_1 | exact rfl) ?_
  | refine wm_popAtE (by with_unfolding_all first | assumption | exact cel_s (by assumption) | exact cel_0 | exact cel_1) (by decide) (by with_unfolding_all first | assumption | exact rfl) (by with_unfolding_all first | assumption | exact rfl) (by with_unfolding_all first | exact List.set_set .. | exact set_0 | exact set_1 | exact rfl) ?_
  | refine wm_popE (by with_unfolding_all first | assumption | exact cel_s (by assumption) | exact cel_0 | exact cel_1) (by with_unfolding_all first | assumption | exact rfl) (by with_unfolding_all first | exact List.set_set .. | exact set_0 | exact set_1 | exact rfl) ?_)
local macro_rules | `(tactic| walk_at "ix") => `(tactic| with_reducible first
  | refine wix_lst (by with_unfolding_all first | exact Sn.lst (by with_unfolding_all first | assumption | exact cel_s (by assumption) | exact cel_0 | exact cel_1) | constructor) (by with_unfolding_all first | exact rfl | exact atI_0 | exact atI_1 | assumption) ?_
  | refine wix_tup (h := by with_unfolding_all first | exact rfl | exact atI_0 | exact atI_1 | assumption) ?_
  | refine wix_dic (by with_unfolding_all exact L2.hu_of (by assumption)) (by with_unfolding_all first | exact Sn.dic (by assumption) | exact Sn.dic cel_0 | exact Sn.dic cel_1 | constructor) (by with_unfolding_all exact rfl) (by with_unfolding_all assumption) ?_)
local macro_rules | `(tactic| walk_at "p") => `(tactic| first
  | walk_at "e"
  | (dsimp only))
local macro_rules | `(tactic| walk_at "w") => `(tactic| repeat walk_at "p")
local macro_rules | `(tactic| walk_at "call") => `(tactic| ((with_reducible show WE _ _ _ (.Call (.Name (Str.ofString "len") _) _ _ _) _); with_reducible refine we_callBF (Tx.n_len (by assumption)) b_len (by decide) (by with_unfolding_all exact rfl) (by with_unfolding_all exact rfl) (by with_unfolding_all exact rfl) (by with_unfolding_all exact rfl) (by with_unfolding_all exact rfl) ?_))
local macro_rules | `(tactic| walk_at "call") => `(tactic| ((with_reducible show WE _ _ _ (.Call (.Name (Str.ofString "all") _) _ _ _) _); with_reducible refine we_callBF (Tx.n_all (by assumption)) b_all (by decide) (by with_unfolding_all exact rfl) (by with_unfolding_all exact rfl) (by with_unfolding_all exact rfl) (by with_unfolding_all exact rfl) (by with_unfolding_all exact rfl) ?_))
local macro_rules | `(tactic| walk_at "call") => `(tactic| ((with_reducible show WE _ _ _ (.Call (.Name (Str.ofString "abs") _) _ _ _) _); with_reducible refine we_callBF (Tx.n_abs (by assumption)) b_abs (by decide) (by with_unfolding_all exact rfl) (by with_unfolding_all exact rfl) (by with_unfolding_all exact rfl) (by with_unfolding_all exact rfl) (by with_unfolding_all exact rfl) ?_))
local macro_rules | `(tactic| walk_at "call") => `(tactic| ((with_reducible show WE _ _ _ (.Call (.Name (Str.ofString "isinstance") _) _ _ _) _); with_reducible refine we_callBF (Tx.n_isinstance (by assumption)) b_isinstance (by decide) (by with_unfolding_all exact rfl) (by with_unfolding_all exact rfl) (by with_unfolding_all exact rfl) (by with_unfolding_all exact rfl) (by with_unfolding_all exact rfl) ?_))
local macro_rules | `(tactic| walk_at "call") => `(tactic| ((with_reducible show WE _ _ _ (.Call (.Name (Str.ofString "sorted") _) _ _ _) _); with_reducible refine we_callBF (Tx.n_sorted (by assumption)) b_sorted (by decide) (by with_unfolding_all exact rfl) (by with_unfolding_all exact rfl) (by with_unfolding_all exact rfl) (by with_unfolding_all exact rfl) (by with_unfolding_all exact rfl) ?_))
local macro_rules | `(tactic| walk_at "wi") => `(tactic| ((with_reducible show WI _ _ _ _ (.Call (.Name (Str.ofString "range") _) [_] _ _) _); with_reducible refine wi_range1 (hs := (by with_unfolding_all exact rfl)) (by with_unfolding_all exact rfl) (by with_unfolding_all exact (Tx.n_range (by assumption))) ?_))
local macro_rules | `(tactic| walk_at "wi") => `(tactic| ((with_reducible show WI _ _ _ _ (.Call (.Name (Str.ofString "range") _) [_, _] _ _) _); with_reducible refine wi_rangeW (by with_unfolding_all exact rfl) (by with_unfolding_all exact (Tx.n_range (by assumption))) (by with_unfolding_all exact rfl) (by with_unfolding_all exact rfl) ?_))
local macro_rules | `(tactic| walk_at "call") => `(tactic| ((with_reducible show WE _ _ _ (.Call (.Name (Str.ofString "range") _) _ _ _) _); with_reducible refine we_callTyF (Tx.n_range (by assumption)) b_range (by decide) (by with_unfolding_all exact rfl) (by with_unfolding_all exact rfl) (by with_unfolding_all exact rfl) (by with_unfolding_all exact rfl) (by with_unfolding_all exact rfl) ?_))
local macro_rules | `(tactic| walk_at "global") => `(tactic| ((with_reducible show WE _ _ _ (.Name (Str.ofString "range") _) _); with_reducible refine we_tyF (Tx.n_range (by assumption)) b_range (by decide) (by with_unfolding_all exact rfl) (by with_unfolding_all exact rfl) (by with_unfolding_all exact rfl) ?_))
local macro_rules | `(tactic| walk_at "call") => `(tactic| ((with_reducible show WE _ _ _ (.Call (.Name (Str.ofString "tuple") _) _ _ _) _); with_reducible refine we_callTyF (Tx.n_tuple (by assumption)) b_tuple (by decide) (by with_unfolding_all exact rfl) (by with_unfolding_all exact rfl) (by with_unfolding_all exact rfl) (by with_unfolding_all exact rfl) (by with_unfolding_all exact rfl) ?_))
local macro_rules | `(tactic| walk_at "global") => `(tactic| ((with_reducible show WE _ _ _ (.Name (Str.ofString "tuple") _) _); with_reducible refine we_tyF (Tx.n_tuple (by assumption)) b_tuple (by decide) (by with_unfolding_all exact rfl) (by with_unfolding_all exact rfl) (by with_unfolding_all exact rfl) ?_))
local macro_rules | `(tactic| walk_at "call") => `(tactic| ((with_reducible show WE _ _ _ (.Call (.Name (Str.ofString "list") _) _ _ _) _); with_reducible refine we_callTyF (Tx.n_list (by assumption)) b_list (by decide) (by with_unfolding_all exact rfl) (by with_unfolding_all exact rfl) (by with_unfolding_all exact rfl) (by with_unfolding_all exact rfl) (by with_unfolding_all exact rfl) ?_))
local macro_rules | `(tactic| walk_at "global") => `(tactic| ((with_reducible show WE _ _ _ (.Name (Str.ofString "list") _) _); with_reducible refine we_tyF (Tx.n_list (by assumption)) b_list (by decide) (by with_unfolding_all exact rfl) (by with_unfolding_all exact rfl) (by with_unfolding_all exact rfl) ?_))
local macro_rules | `(tactic| walk_at "call") => `(tactic| ((with_reducible show WE _ _ _ (.Call (.Name (Str.ofString "int") _) _ _ _) _); with_reducible refine we_callTyF (Tx.n_int (by assumption)) b_int (by decide) (by with_unfolding_all exact rfl) (by with_unfolding_all exact rfl) (by with_unfolding_all exact rfl) (by with_unfolding_all exact rfl) (by with_unfolding_all exact rfl) ?_))
local macro_rules | `(tactic| walk_at "global") => `(tactic| ((with_reducible show WE _ _ _ (.Name (Str.ofString "int") _) _); with_reducible refine we_tyF (Tx.n_int (by assumption)) b_int (by decide) (by with_unfolding_all exact rfl) (by with_unfolding_all exact rfl) (by with_unfolding_all exact rfl) ?_))
local macro_rules | `(tactic| walk_at "call") => `(tactic| ((with_reducible show WE _ _ _ (.Call (.Name (Str.ofString "str") _) _ _ _) _); with_reducible refine we_callTyF (Tx.n_str (by assumption)) b_str (by decide) (by with_unfolding_all exact rfl) (by with_unfolding_all exact rfl) (by with_unfolding_all exact rfl) (by with_unfolding_all exact rfl) (by with_unfolding_all exact rfl) ?_))
local macro_rules | `(tactic| walk_at "global") => `(tactic| ((with_reducible show WE _ _ _ (.Name (Str.ofString "str") _) _); with_reducible refine we_tyF (Tx.n_str (by assumption)) b_str (by decide) (by with_unfolding_all exact rfl) (by with_unfolding_all exact rfl) (by with_unfolding_all exact rfl) ?_))
local macro_rules | `(tactic| walk_at "call") => `(tactic| ((with_reducible show WE _ _ _ (.Call (.Name (Str.ofString "bool") _) _ _ _) _); with_reducible refine we_callTyF (Tx.n_bool (by assumption)) b_bool (by decide) (by with_unfolding_all exact rfl) (by with_unfolding_all exact rfl) (by with_unfolding_all exact rfl) (by with_unfolding_all exact rfl) (by with_unfolding_all exact rfl) ?_))
local macro_rules | `(tactic| walk_at "global") => `(tactic| ((with_reducible show WE _ _ _ (.Name (Str.ofString "bool") _) _); with_reducible refine we_tyF (Tx.n_bool (by assumption)) b_bool (by decide) (by with_unfolding_all exact rfl) (by with_unfolding_all exact rfl) (by with_unfolding_all exact rfl) ?_))
local macro_rules | `(tactic| walk_at "call") => `(tactic| ((with_reducible show WE _ _ _ (.Call (.Name (Str.ofString "dict") _) _ _ _) _); with_reducible refine we_callTyF (Tx.n_dict (by assumption)) b_dict (by decide) (by with_unfolding_all exact rfl) (by with_unfolding_all exact rfl) (by with_unfolding_all exact rfl) (by with_unfolding_all exact rfl) (by with_unfolding_all exact rfl) ?_))
local macro_rules | `(tactic| walk_at "global") => `(tactic| ((with_reducible show WE _ _ _ (.Name (Str.ofString "dict") _) _); with_reducible refine we_tyF (Tx.n_dict (by assumption)) b_dict (by decide) (by with_unfolding_all exact rfl) (by with_unfolding_all exact rfl) (by with_unfolding_all exact rfl) ?_))
local macro_rules | `(tactic| walk_at "call") => `(tactic| ((with_reducible show WE _ _ _ (.Call (.Name (Str.ofString "ValueError") _) _ _ _) _); with_reducible refine we_callTyF (Tx.n_ValueError (by assumption)) b_ValueError (by decide) (by with_unfolding_all exact rfl) (by with_unfolding_all exact rfl) (by with_unfolding_all exact rfl) (by with_unfolding_all exact rfl) (by with_unfolding_all exact rfl) ?_))
local macro_rules | `(tactic| walk_at "global") => `(tactic| ((with_reducible show WE _ _ _ (.Name (Str.ofString "ValueError") _) _); with_reducible refine we_tyF (Tx.n_ValueError (by assumption)) b_ValueError (by decide) (by with_unfolding_all exact rfl) (by with_unfolding_all exact rfl) (by with_unfolding_all exact rfl) ?_))
local macro_rules | `(tactic| walk_at "call") => `(tactic| ((with_reducible show WE _ _ _ (.Call (.Name (Str.ofString "list") _) [.Call (.Name (Str.ofString "range") _) [_] _ _] _ _) _); with_reducible refine we_listRg1 (by with_unfolding_all exact Tx.n_list (by assumption)) (by with_unfolding_all exact Tx.n_range (by assumption)) (by with_unfolding_all exact rfl) (by with_unfolding_all exact rfl) (by with_unfolding_all exact rfl) (by with_unfolding_all exact rfl) (by with_unfolding_all exact rfl) ?_))
local macro_rules | `(tactic| walk_at "raise") => `(tactic| ((with_reducible show WS _ _ _ _ (.Raise (some (.Call (.Name (Str.ofString "BellError") _) _ _ _)) _ _) _); with_reducible refine ws_raise0F (Tx.e_BellError (by assumption)) (by with_unfolding_all exact rfl) (by with_unfolding_all exact rfl) (by with_unfolding_all exact rfl) (by with_unfolding_all exact rfl) (by with_unfolding_all exact rfl) ?_))
local macro_rules | `(tactic| walk_at "raise") => `(tactic| ((with_reducible show WS _ _ _ _ (.Raise (some (.Call (.Name (Str.ofString "BadLand") _) _ _ _)) _ _) _); with_reducible refine ws_raise0F (Tx.e_BadLand (by assumption)) (by with_unfolding_all exact rfl) (by with_unfolding_all exact rfl) (by with_unfolding_all exact rfl) (by with_unfolding_all exact rfl) (by with_unfolding_all exact rfl) ?_))
local macro_rules | `(tactic| walk_at "raise") => `(tactic| ((with_reducible show WS _ _ _ _ (.Raise (some (.Call (.Name (Str.ofString "BadMoment") _) _ _ _)) _ _) _); with_reducible refine ws_raise0F (Tx.e_BadMoment (by assumption)) (by with_unfolding_all exact rfl) (by with_unfolding_all exact rfl) (by with_unfolding_all exact rfl) (by with_unfolding_all exact rfl) (by with_unfolding_all exact rfl) ?_))
local macro_rules | `(tactic| walk_at "raise") => `(tactic| ((with_reducible show WS _ _ _ _ (.Raise (some (.Call (.Name (Str.ofString "BadRules") _) (_ :: _) _ _)) _ _) _); with_reducible refine ws_raiseXF (ok_BadRules___init__ (pf := by with_unfolding_all assumption) (by assumption)) (by with_unfolding_all exact ⟨rfl, rfl, rfl, rfl, rfl⟩) (by with_unfolding_all exact rfl) (by with_unfolding_all exact L2.Room.mono (by assumption) (by decide)) (by with_unfolding_all exact rfl) (by with_unfolding_all exact rfl) (by with_unfolding_all exact rfl) (by with_unfolding_all exact rfl) (by with_unfolding_all exact Nat.le_of_ble_eq_true rfl) ?_))
local macro_rules | `(tactic| walk_at "raise") => `(tactic| ((with_reducible show WS _ _ _ _ (.Raise (some (.Call (.Name (Str.ofString "BadText") _) (_ :: _) _ _)) _ _) _); with_reducible refine ws_raiseXF (ok_BadText___init__ (pf := by with_unfolding_all assumption) (by assumption)) (by with_unfolding_all exact ⟨rfl, rfl, rfl, rfl, rfl⟩) (by with_unfolding_all exact rfl) (by with_unfolding_all exact L2.Room.mono (by assumption) (by decide)) (by with_unfolding_all exact rfl) (by with_unfolding_all exact rfl) (by with_unfolding_all exact rfl) (by with_unfolding_all exact rfl) (by with_unfolding_all exact Nat.le_of_ble_eq_true rfl) ?_))
local macro_rules | `(tactic| walk_at "global") => `(tactic| ((with_reducible show WE _ _ _ (.Name (Str.ofString "BadRules") _) _); with_reducible refine we_clsF (Tx.g_BadRules (by assumption)) (by with_unfolding_all exact rfl) (by with_unfolding_all exact rfl) (by with_unfolding_all exact rfl) (by with_unfolding_all exact rfl) ?_))
local macro_rules | `(tactic| walk_at "global") => `(tactic| ((with_reducible show WE _ _ _ (.Name (Str.ofString "BadLand") _) _); with_reducible refine we_clsF (Tx.g_BadLand (by assumption)) (by with_unfolding_all exact rfl) (by with_unfolding_all exact rfl) (by with_unfolding_all exact rfl) (by with_unfolding_all exact rfl) ?_))
local macro_rules | `(tactic| walk_at "global") => `(tactic| ((with_reducible show WE _ _ _ (.Name (Str.ofString "BadMoment") _) _); with_reducible refine we_clsF (Tx.g_BadMoment (by assumption)) (by with_unfolding_all exact rfl) (by with_unfolding_all exact rfl) (by with_unfolding_all exact rfl) (by with_unfolding_all exact rfl) ?_))
local macro_rules | `(tactic| walk_at "global") => `(tactic| ((with_reducible show WE _ _ _ (.Name (Str.ofString "BadText") _) _); with_reducible refine we_clsF (Tx.g_BadText (by assumption)) (by with_unfolding_all exact rfl) (by with_unfolding_all exact rfl) (by with_unfolding_all exact rfl) (by with_unfolding_all exact rfl) ?_))
local macro_rules | `(tactic| walk_at "bin") => `(tactic| with_reducible first | refine wo_eqI ?_ | refine wo_neI ?_ | refine wo_eqS ?_ | refine wo_neS ?_ | refine wo_eqD (by with_unfolding_all exact roomH_units (by assumption)) (by with_unfolding_all constructor) (by with_unfolding_all constructor) (by first | exact Pl.pn (Pl.mono (by assumption) (by decide)) | (simp [Pn]; done) | fail) (by first | exact Pl.pn (Pl.mono (by assumption) (by decide)) | (simp [Pn]; done) | fail) ?_ | refine wo_neD (by with_unfolding_all exact roomH_units (by assumption)) (by with_unfolding_all constructor) (by with_unfolding_all constructor) (by first | exact Pl.pn (Pl.mono (by assumption) (by decide)) | (simp [Pn]; done) | fail) (by first | exact Pl.pn (Pl.mono (by assumption) (by decide)) | (simp [Pn]; done) | fail) ?_)
local macro_rules | `(tactic| walk_at "wiH") => `(tactic| ((with_reducible show WIH _ _ _ _ (.Call (.Name (Str.ofString "range") _) [_] _ _) _); with_reducible refine wi_rangeH (by with_unfolding_all exact rfl) (by with_unfolding_all exact (Tx.n_range (by assumption))) (by with_unfolding_all exact rfl) ?_))
section
variable {P : Program} [pf : PFile P] {w : World} {K : PySem.W.Frag} {mg : Str → Option Value} {base : Heap}
theorem nm__law_equal__law_actual : nmB N__law_equal (defScope s__law_equal) "_law_actual" 0 = true := by decide +kernel
theorem nm__law_equal__law_expected : nmB N__law_equal (defScope s__law_equal) "_law_expected" 1 = true := by decide +kernel
local macro_rules | `(tactic| walk_at "n") => `(tactic| first
  | ((with_reducible show WE _ _ _ (.Name (Str.ofString "_law_actual") _) _); with_reducible refine we_nm (by with_unfolding_all exact nm__law_equal__law_actual) (by with_unfolding_all exact rfl) ?_)
  | ((with_reducible show WE _ _ _ (.Name (Str.ofString "_law_expected") _) _); with_reducible refine we_nm (by with_unfolding_all exact nm__law_equal__law_expected) (by with_unfolding_all exact rfl) ?_))
local macro_rules | `(tactic| walk_at "lcH") => `(tactic| first
  | ((with_reducible show WE _ _ _ (.ListComp _ [⟨.Name (Str.ofString "_law_k") _, _, _, _⟩] _ _) _); with_reducible refine we_lcH (own := [(("_law_k" : Str), 3)]) (Tgt.nm 3) (by with_unfolding_all assumption) (by with_unfolding_all assumption) (by with_unfolding_all exact blkOk_by rfl) (by with_unfolding_all decide) (fun b => (by with_unfolding_all exact (pg_name (by with_unfolding_all assumption) (by with_unfolding_all exact rfl) (by with_unfolding_all first | exact Or.inl rfl | exact Or.inr rfl) (by with_unfolding_all first | exact .inl rfl | exact .inr rfl)))) ?_ (by with_unfolding_all (intro _; exact rfl)))
  | ((with_reducible show WE _ _ _ (.ListComp _ [⟨.Name (Str.ofString "_law_key") _, _, _, _⟩] _ _) _); with_reducible refine we_lcH (own := [(("_law_key" : Str), 2)]) (Tgt.nm 2) (by with_unfolding_all assumption) (by with_unfolding_all assumption) (by with_unfolding_all exact blkOk_by rfl) (by with_unfolding_all decide) (fun b => (by with_unfolding_all exact (pg_name (by with_unfolding_all assumption) (by with_unfolding_all exact rfl) (by with_unfolding_all first | exact Or.inl rfl | exact Or.inr rfl) (by with_unfolding_all first | exact .inl rfl | exact .inr rfl)))) ?_ (by with_unfolding_all (intro _; exact rfl))))
local macro_rules | `(tactic| walk_at "lc") => `(tactic| first
  | ((with_reducible show WE _ _ _ (.ListComp _ [⟨.Name (Str.ofString "_law_k") _, _, _, _⟩] _ _) _); with_reducible refine we_lc (own := [(("_law_k" : Str), 3)]) (Tgt.nm 3) (by with_unfolding_all exact rfl) (by with_unfolding_all assumption) (by with_unfolding_all exact blkOk_by rfl) (by with_unfolding_all decide) (fun b => (by with_unfolding_all exact (pg_name (by with_unfolding_all assumption) (by with_unfolding_all exact rfl) (by with_unfolding_all first | exact Or.inl rfl | exact Or.inr rfl) (by with_unfolding_all first | exact .inl rfl | exact .inr rfl)))) ?_ (by with_unfolding_all (intro _; exact rfl)))
  | ((with_reducible show WE _ _ _ (.ListComp _ [⟨.Name (Str.ofString "_law_key") _, _, _, _⟩] _ _) _); with_reducible refine we_lc (own := [(("_law_key" : Str), 2)]) (Tgt.nm 2) (by with_unfolding_all exact rfl) (by with_unfolding_all assumption) (by with_unfolding_all exact blkOk_by rfl) (by with_unfolding_all decide) (fun b => (by with_unfolding_all exact (pg_name (by with_unfolding_all assumption) (by with_unfolding_all exact rfl) (by with_unfolding_all first | exact Or.inl rfl | exact Or.inr rfl) (by with_unfolding_all first | exact .inl rfl | exact .inr rfl)))) ?_ (by with_unfolding_all (intro _; exact rfl))))
theorem rec0P__law_equal (T : Tx K mg) (p : Addr × Obj) : HasFnP P w K mg base p (0 + 1) "_law_equal" P__law_equal (fun ws c Q E => ∃ x y, Pl 0 x ∧ Pl 0 y ∧ ws = [.im x, .im y] ∧ Q (.im (.bl (leq 0 x y))) c) := by
  obtain ⟨f, fd, hm, Fu⟩ := T.f__law_equal
  refine ⟨f, fd, hm, Fu.kp, fn_wP Fu sc__law_equal (fun ws c Q E => ?_) (fun cdv A outer s H E ws c Q Qx hot hr hF => ?_), Fu.binds fun _ _ _ _ _ _ us hl => match us, hl with | [_, _], _ => rfl⟩
  · rintro ⟨x, y, hx, hy, rfl, _⟩; rfl
  obtain ⟨x, y, hx, hy, rfl, hq⟩ := hF
  have hnd : N__law_equal.Nodup := sc__law_equal.nd
  have hcc : L2H.HotC (cyP P w K mg base N__law_equal "_law_equal" (defScope s__law_equal) f cdv A outer s H E p).X := ⟨p, hot, List.mem_cons_self⟩
  have hpn : p ∈ (cyP P w K mg base N__law_equal "_law_equal" (defScope s__law_equal) f cdv A outer s H E p).X.pn := List.mem_cons_self
  change WSs _ _ [_, _, _, _] _ _ _
  refine wss_cons ?_
  cases y with
  | non =>
    rw [leq_non] at hq
    cases x with
    | non =>
      walk_at "w"
      all_goals (first | exact hq | exact q_bl hq rfl | exact q_bl hq (by simp [leq]))
    | bl a =>
      walk_at "w"
      all_goals (first | exact hq | exact q_bl hq rfl | exact q_bl hq (by simp [leq]))
    | int i =>
      walk_at "w"
      all_goals (first | exact hq | exact q_bl hq rfl | exact q_bl hq (by simp [leq]))
    | str s =>
      walk_at "w"
      all_goals (first | exact hq | exact q_bl hq rfl | exact q_bl hq (by simp [leq]))
    | _ => exact hx.elim
  | bl b =>
    cases x with
    | non =>
      walk_at "w"
      all_goals (first | exact hq | exact q_bl hq rfl | exact q_bl hq (by simp [leq]))
    | bl a =>
      walk_at "w"
      all_goals (cases a <;> cases b <;> exact hq)
    | int i =>
      walk_at "w"
      all_goals (first | exact hq | exact q_bl hq rfl | exact q_bl hq (by simp [leq]))
    | str s =>
      walk_at "w"
      all_goals (first | exact hq | exact q_bl hq rfl | exact q_bl hq (by simp [leq]))
    | _ => exact hx.elim
  | int j =>
    cases x with
    | non =>
      walk_at "w"
      all_goals (first | exact hq | exact q_bl hq rfl | exact q_bl hq (by simp [leq]))
    | bl a =>
      walk_at "w"
      all_goals (first | exact hq | exact q_bl hq rfl | exact q_bl hq (by simp [leq]))
    | int i =>
      walk_at "w"
      all_goals (first | exact hq | exact q_bl hq rfl | exact q_bl hq (by simp [leq]))
    | str s =>
      walk_at "w"
      all_goals (first | exact hq | exact q_bl hq rfl | exact q_bl hq (by simp [leq]))
    | _ => exact hx.elim
  | str t =>
    cases x with
    | non =>
      walk_at "w"
      all_goals (first | exact hq | exact q_bl hq rfl | exact q_bl hq (by simp [leq]))
    | bl a =>
      walk_at "w"
      all_goals (first | exact hq | exact q_bl hq rfl | exact q_bl hq (by simp [leq]))
    | int i =>
      walk_at "w"
      all_goals (first | exact hq | exact q_bl hq rfl | exact q_bl hq (by simp [leq]))
    | str s =>
      walk_at "w"
      all_goals (first | exact hq | exact q_bl hq rfl | exact q_bl hq (by simp [leq]))
    | _ => exact hx.elim
  | _ => exact hy.elim
theorem recSP__law_equal (T : Tx K mg) (p : Addr × Obj) {m : Nat} (ih : HasFnP P w K mg base p (m + 1) "_law_equal" P__law_equal (fun ws c Q E => ∃ x y, Pl m x ∧ Pl m y ∧ ws = [.im x, .im y] ∧ Q (.im (.bl (leq m x y))) c)) : HasFnP P w K mg base p (m + 1 + 1) "_law_equal" P__law_equal (fun ws c Q E => ∃ x y, Pl (m + 1) x ∧ Pl (m + 1) y ∧ ws = [.im x, .im y] ∧ Q (.im (.bl (leq (m + 1) x y))) c) := by
  obtain ⟨f, fd, hm, Fu⟩ := T.f__law_equal
  refine ⟨f, fd, hm, Fu.kp, fn_wP Fu sc__law_equal (fun ws c Q E => ?_) (fun cdv A outer s H E ws c Q Qx hot hr hF => ?_), Fu.binds fun _ _ _ _ _ _ us hl => match us, hl with | [_, _], _ => rfl⟩
  · rintro ⟨x, y, hx, hy, rfl, _⟩; rfl
  obtain ⟨x, y, hx, hy, rfl, hq⟩ := hF
  have hnd : N__law_equal.Nodup := sc__law_equal.nd
  have hcc : L2H.HotC (cyP P w K mg base N__law_equal "_law_equal" (defScope s__law_equal) f cdv A outer s H E p).X := ⟨p, hot, List.mem_cons_self⟩
  have hpn : p ∈ (cyP P w K mg base N__law_equal "_law_equal" (defScope s__law_equal) f cdv A outer s H E p).X.pn := List.mem_cons_self
  change WSs _ _ [_, _, _, _] _ _ _
  refine wss_cons ?_
  cases y with
  | non =>
    rw [leq_non] at hq
    cases x with
    | non =>
      walk_at "w"
      all_goals (first | exact hq | exact q_bl hq rfl | exact q_bl hq (by simp [leq]))
    | bl a =>
      walk_at "w"
      all_goals (first | exact hq | exact q_bl hq rfl | exact q_bl hq (by simp [leq]))
    | int i =>
      walk_at "w"
      all_goals (first | exact hq | exact q_bl hq rfl | exact q_bl hq (by simp [leq]))
    | str s =>
      walk_at "w"
      all_goals (first | exact hq | exact q_bl hq rfl | exact q_bl hq (by simp [leq]))
    | tup l =>
      walk_at "w"
      all_goals (first | exact hq | exact q_bl hq rfl | exact q_bl hq (by simp [leq]))
    | lst l =>
      walk_at "w"
      all_goals (first | exact hq | exact q_bl hq rfl | exact q_bl hq (by simp [leq]))
    | _ => exact hx.elim
  | bl b =>
    cases x with
    | non =>
      walk_at "w"
      all_goals (first | exact hq | exact q_bl hq rfl | exact q_bl hq (by simp [leq]))
    | bl a =>
      walk_at "w"
      all_goals (cases a <;> cases b <;> exact hq)
    | int i =>
      walk_at "w"
      all_goals (first | exact hq | exact q_bl hq rfl | exact q_bl hq (by simp [leq]))
    | str s =>
      walk_at "w"
      all_goals (first | exact hq | exact q_bl hq rfl | exact q_bl hq (by simp [leq]))
    | tup l =>
      walk_at "w"
      all_goals (first | exact hq | exact q_bl hq rfl | exact q_bl hq (by simp [leq]))
    | lst l =>
      walk_at "w"
      all_goals (first | exact hq | exact q_bl hq rfl | exact q_bl hq (by simp [leq]))
    | _ => exact hx.elim
  | int j =>
    cases x with
    | non =>
      walk_at "w"
      all_goals (first | exact hq | exact q_bl hq rfl | exact q_bl hq (by simp [leq]))
    | bl a =>
      walk_at "w"
      all_goals (first | exact hq | exact q_bl hq rfl | exact q_bl hq (by simp [leq]))
    | int i =>
      walk_at "w"
      all_goals (first | exact hq | exact q_bl hq rfl | exact q_bl hq (by simp [leq]))
    | str s =>
      walk_at "w"
      all_goals (first | exact hq | exact q_bl hq rfl | exact q_bl hq (by simp [leq]))
    | tup l =>
      walk_at "w"
      all_goals (first | exact hq | exact q_bl hq rfl | exact q_bl hq (by simp [leq]))
    | lst l =>
      walk_at "w"
      all_goals (first | exact hq | exact q_bl hq rfl | exact q_bl hq (by simp [leq]))
    | _ => exact hx.elim
  | str t =>
    cases x with
    | non =>
      walk_at "w"
      all_goals (first | exact hq | exact q_bl hq rfl | exact q_bl hq (by simp [leq]))
    | bl a =>
      walk_at "w"
      all_goals (first | exact hq | exact q_bl hq rfl | exact q_bl hq (by simp [leq]))
    | int i =>
      walk_at "w"
      all_goals (first | exact hq | exact q_bl hq rfl | exact q_bl hq (by simp [leq]))
    | str s =>
      walk_at "w"
      all_goals (first | exact hq | exact q_bl hq rfl | exact q_bl hq (by simp [leq]))
    | tup l =>
      walk_at "w"
      all_goals (first | exact hq | exact q_bl hq rfl | exact q_bl hq (by simp [leq]))
    | lst l =>
      walk_at "w"
      all_goals (first | exact hq | exact q_bl hq rfl | exact q_bl hq (by simp [leq]))
    | _ => exact hx.elim
  | tup l2 =>
    cases x with
    | non =>
      walk_at "w"
      all_goals (first | exact hq | exact q_bl hq rfl | exact q_bl hq (by simp [leq]))
    | bl a =>
      walk_at "w"
      all_goals (first | exact hq | exact q_bl hq rfl | exact q_bl hq (by simp [leq]))
    | int i =>
      walk_at "w"
      all_goals (first | exact hq | exact q_bl hq rfl | exact q_bl hq (by simp [leq]))
    | str s =>
      walk_at "w"
      all_goals (first | exact hq | exact q_bl hq rfl | exact q_bl hq (by simp [leq]))
    | tup l =>
      by_cases hln : l.length = l2.length
      · have hlen : l.length ≤ 1000000 := Nat.le_trans hx.1 (by decide)
        have hlen2 : l2.length ≤ 1000000 := Nat.le_trans hy.1 (by decide)
        have hdec : (!decide ((l.length : Int) = (l2.length : Int))) = false := by rw [hln]; simp
        have hgl : (List.zipWith (leq m) l l2).length = l2.length := by rw [List.length_zipWith, hln, Nat.min_self]
        walk_at "w"
        rw [hdec]
        walk_at "w"
        walk_at "lcH"
        walk_at "wiH"
        walk_at "w"
        refine lcH_list ((List.zipWith (leq m) l l2).map D.bl) (by rw [List.length_map, hgl, rangeD_len]; omega) (by rw [rangeD_len]; omega) (fun i d e hd he => ⟨trivial, fun bk => ?_⟩) ?_
        · obtain ⟨hi1, rfl⟩ := rangeD_get hd
          have hk : i < l.length := by omega
          have hk2 : i < l2.length := by omega
          have hat : L2.atI l (0 + (i : Int)) = some l[i] := by rw [Int.zero_add]; exact atI_nat hk
          have hat2 : L2.atI l2 (0 + (i : Int)) = some l2[i] := by rw [Int.zero_add]; exact atI_nat hk2
          rw [List.getElem?_map, List.getElem?_eq_getElem (by rw [hgl]; exact hk2), List.getElem_zipWith] at he
          have he := Option.some.inj he
          subst he
          refine we_callP ih (by with_unfolding_all exact ⟨rfl, rfl, rfl, rfl, rfl⟩) (by with_unfolding_all exact hr) (by with_unfolding_all exact hot) (by with_unfolding_all exact hpn) (by with_unfolding_all exact rfl) (by with_unfolding_all exact rfl) (by with_unfolding_all exact rfl) (by with_unfolding_all exact rfl) ?_
          walk_at "w"
          exact ⟨_, _, hx.2 _ (List.getElem_mem hk), hy.2 _ (List.getElem_mem hk2), rfl, rfl, rfl⟩
        · walk_at "w"
          refine wc_allH (by with_unfolding_all exact hcc) .im ?_
          walk_at "w"
          exact q_bl hq (by unfold leq; rw [decide_eq_true hln, Bool.true_and])
      · have hlen : l.length ≤ 1000000 := Nat.le_trans hx.1 (by decide)
        have hlen2 : l2.length ≤ 1000000 := Nat.le_trans hy.1 (by decide)
        have hdec : (!decide ((l.length : Int) = (l2.length : Int))) = true := by
          rw [decide_eq_false (by omega)]; rfl
        walk_at "w"
        exact q_bl hq (by unfold leq; rw [decide_eq_false hln]; rfl)
    | lst l =>
      walk_at "w"
      all_goals (first | exact hq | exact q_bl hq rfl | exact q_bl hq (by simp [leq]))
    | _ => exact hx.elim
  | lst l2 =>
    cases x with
    | non =>
      walk_at "w"
      all_goals (first | exact hq | exact q_bl hq rfl | exact q_bl hq (by simp [leq]))
    | bl a =>
      walk_at "w"
      all_goals (first | exact hq | exact q_bl hq rfl | exact q_bl hq (by simp [leq]))
    | int i =>
      walk_at "w"
      all_goals (first | exact hq | exact q_bl hq rfl | exact q_bl hq (by simp [leq]))
    | str s =>
      walk_at "w"
      all_goals (first | exact hq | exact q_bl hq rfl | exact q_bl hq (by simp [leq]))
    | tup l =>
      walk_at "w"
      all_goals (first | exact hq | exact q_bl hq rfl | exact q_bl hq (by simp [leq]))
    | lst l =>
      by_cases hln : l.length = l2.length
      · have hlen : l.length ≤ 1000000 := Nat.le_trans hx.1 (by decide)
        have hlen2 : l2.length ≤ 1000000 := Nat.le_trans hy.1 (by decide)
        have hdec : (!decide ((l.length : Int) = (l2.length : Int))) = false := by rw [hln]; simp
        have hgl : (List.zipWith (leq m) l l2).length = l2.length := by rw [List.length_zipWith, hln, Nat.min_self]
        walk_at "w"
        rw [hdec]
        walk_at "w"
        walk_at "lcH"
        walk_at "wiH"
        walk_at "w"
        refine lcH_list ((List.zipWith (leq m) l l2).map D.bl) (by rw [List.length_map, hgl, rangeD_len]; omega) (by rw [rangeD_len]; omega) (fun i d e hd he => ⟨trivial, fun bk => ?_⟩) ?_
        · obtain ⟨hi1, rfl⟩ := rangeD_get hd
          have hk : i < l.length := by omega
          have hk2 : i < l2.length := by omega
          have hat : L2.atI l (0 + (i : Int)) = some l[i] := by rw [Int.zero_add]; exact atI_nat hk
          have hat2 : L2.atI l2 (0 + (i : Int)) = some l2[i] := by rw [Int.zero_add]; exact atI_nat hk2
          rw [List.getElem?_map, List.getElem?_eq_getElem (by rw [hgl]; exact hk2), List.getElem_zipWith] at he
          have he := Option.some.inj he
          subst he
          refine we_callP ih (by with_unfolding_all exact ⟨rfl, rfl, rfl, rfl, rfl⟩) (by with_unfolding_all exact hr) (by with_unfolding_all exact hot) (by with_unfolding_all exact hpn) (by with_unfolding_all exact rfl) (by with_unfolding_all exact rfl) (by with_unfolding_all exact rfl) (by with_unfolding_all exact rfl) ?_
          walk_at "w"
          exact ⟨_, _, hx.2 _ (List.getElem_mem hk), hy.2 _ (List.getElem_mem hk2), rfl, rfl, rfl⟩
        · walk_at "w"
          refine wc_allH (by with_unfolding_all exact hcc) .im ?_
          walk_at "w"
          exact q_bl hq (by unfold leq; rw [decide_eq_true hln, Bool.true_and])
      · have hlen : l.length ≤ 1000000 := Nat.le_trans hx.1 (by decide)
        have hlen2 : l2.length ≤ 1000000 := Nat.le_trans hy.1 (by decide)
        have hdec : (!decide ((l.length : Int) = (l2.length : Int))) = true := by
          rw [decide_eq_false (by omega)]; rfl
        walk_at "w"
        exact q_bl hq (by unfold leq; rw [decide_eq_false hln]; rfl)
    | _ => exact hx.elim
  | _ => exact hy.elim
theorem recP__law_equal (T : Tx K mg) (p : Addr × Obj) : ∀ m : Nat, HasFnP P w K mg base p (m + 1) "_law_equal" P__law_equal (fun ws c Q E => ∃ x y, Pl m x ∧ Pl m y ∧ ws = [.im x, .im y] ∧ Q (.im (.bl (leq m x y))) c)
  | 0 => rec0P__law_equal T p
  | m + 1 => recSP__law_equal T p (recP__law_equal T p m)
local macro_rules | `(tactic| walk_at "call") => `(tactic| ((with_reducible show WE _ _ _ (.Call (.Name (Str.ofString "_law_equal") _) _ _ _) _); with_reducible refine we_callF (ok__law_equal (pf := by with_unfolding_all assumption) (by assumption)) (by with_unfolding_all exact ⟨rfl, rfl, rfl, rfl, rfl⟩) (by with_unfolding_all exact L2.Room.mono (by assumption) (by decide)) (by with_unfolding_all exact rfl) (by with_unfolding_all exact rfl) (by with_unfolding_all exact rfl) (by with_unfolding_all exact rfl) ?_))
theorem nm__law_random__law_script : nmB N__law_random (defScope s__law_random) "_law_script" 0 = true := by decide +kernel
theorem nm__law_random__law_salt : nmB N__law_random (defScope s__law_random) "_law_salt" 1 = true := by decide +kernel
theorem nm__law_random__law_seed : nmB N__law_random (defScope s__law_random) "_law_seed" 2 = true := by decide +kernel
theorem st__law_random__law_seed : stB N__law_random (defScope s__law_random) "_law_seed" 2 = true := by decide +kernel
theorem nm__law_random__law_cell : nmB N__law_random (defScope s__law_random) "_law_cell" 3 = true := by decide +kernel
theorem st__law_random__law_cell : stB N__law_random (defScope s__law_random) "_law_cell" 3 = true := by decide +kernel
local macro_rules | `(tactic| walk_at "n") => `(tactic| first
  | ((with_reducible show WE _ _ _ (.Name (Str.ofString "_law_script") _) _); with_reducible refine we_nm (by with_unfolding_all exact nm__law_random__law_script) (by with_unfolding_all exact rfl) ?_)
  | ((with_reducible show WE _ _ _ (.Name (Str.ofString "_law_salt") _) _); with_reducible refine we_nm (by with_unfolding_all exact nm__law_random__law_salt) (by with_unfolding_all exact rfl) ?_)
  | ((with_reducible show WE _ _ _ (.Name (Str.ofString "_law_seed") _) _); with_reducible refine we_nm (by with_unfolding_all exact nm__law_random__law_seed) (by with_unfolding_all exact rfl) ?_)
  | ((with_reducible show WE _ _ _ (.Name (Str.ofString "_law_cell") _) _); with_reducible refine we_nm (by with_unfolding_all exact nm__law_random__law_cell) (by with_unfolding_all exact rfl) ?_))
local macro_rules | `(tactic| walk_at "set") => `(tactic| first
  | ((with_reducible show WS _ _ _ _ (.Assign [.Name (Str.ofString "_law_seed") _] _ _) _); with_reducible refine ws_st (by with_unfolding_all exact st__law_random__law_seed) (by with_unfolding_all assumption) (by with_unfolding_all exact rfl) (by with_unfolding_all exact rfl) ?_)
  | ((with_reducible show WS _ _ _ _ (.Assign [.Name (Str.ofString "_law_cell") _] _ _) _); with_reducible refine ws_st (by with_unfolding_all exact st__law_random__law_cell) (by with_unfolding_all assumption) (by with_unfolding_all exact rfl) (by with_unfolding_all exact rfl) ?_))
local macro_rules | `(tactic| walk_at "aug") => `(tactic| first
  | ((with_reducible show WS _ _ _ _ (.AugAssign (.Name (Str.ofString "_law_seed") _) _ _ _) _); with_reducible refine ws_ag (by with_unfolding_all exact st__law_random__law_seed) (by with_unfolding_all assumption) (by with_unfolding_all exact rfl) (by with_unfolding_all exact rfl) ?_)
  | ((with_reducible show WS _ _ _ _ (.AugAssign (.Name (Str.ofString "_law_cell") _) _ _ _) _); with_reducible refine ws_ag (by with_unfolding_all exact st__law_random__law_cell) (by with_unfolding_all assumption) (by with_unfolding_all exact rfl) (by with_unfolding_all exact rfl) ?_))
local macro_rules | `(tactic| walk_at "lcH") => `(tactic| first
  | ((with_reducible show WE _ _ _ (.ListComp _ [⟨.Name (Str.ofString "_law_cell") _, _, _, _⟩] _ _) _); with_reducible refine we_lcH (own := [(("_law_cell" : Str), 3)]) (Tgt.nm 3) (by with_unfolding_all assumption) (by with_unfolding_all assumption) (by with_unfolding_all exact blkOk_by rfl) (by with_unfolding_all decide) (fun b => (by with_unfolding_all exact (pg_name (by with_unfolding_all assumption) (by with_unfolding_all exact rfl) (by with_unfolding_all first | exact Or.inl rfl | exact Or.inr rfl) (by with_unfolding_all first | exact .inl rfl | exact .inr rfl)))) ?_ (by with_unfolding_all (intro _; exact rfl))))
local macro_rules | `(tactic| walk_at "lc") => `(tactic| first
  | ((with_reducible show WE _ _ _ (.ListComp _ [⟨.Name (Str.ofString "_law_cell") _, _, _, _⟩] _ _) _); with_reducible refine we_lc (own := [(("_law_cell" : Str), 3)]) (Tgt.nm 3) (by with_unfolding_all exact rfl) (by with_unfolding_all assumption) (by with_unfolding_all exact blkOk_by rfl) (by with_unfolding_all decide) (fun b => (by with_unfolding_all exact (pg_name (by with_unfolding_all assumption) (by with_unfolding_all exact rfl) (by with_unfolding_all first | exact Or.inl rfl | exact Or.inr rfl) (by with_unfolding_all first | exact .inl rfl | exact .inr rfl)))) ?_ (by with_unfolding_all (intro _; exact rfl))))
local macro_rules | `(tactic| walk_at "for") => `(tactic| first
  | ((with_reducible show WS _ _ _ _ (.For (.Name (Str.ofString "_law_cell") _) _ _ _ _) _); with_reducible refine ws_forF (Tgt.nm 3) (by with_unfolding_all exact rfl) (by with_unfolding_all exact (pg_name (by with_unfolding_all assumption) (by with_unfolding_all exact rfl) (by with_unfolding_all first | exact Or.inl rfl | exact Or.inr rfl) (by with_unfolding_all first | exact .inl rfl | exact .inr rfl))) (by with_unfolding_all (intro _; exact rfl)) ?_))
/-- _law_random -/
abbrev F__law_random (K : PySem.W.Frag) : FSp := fun ws c Q E => ∃ (l : List Int) (s : Int), clo c.length c = true ∧ l.length ≤ 63 ∧ ws = [.im (.scr l), .im (.int s)] ∧ ∀ dr : Dr, dr.ok → Q (.ce c.length) (c ++ [.lst dr.l])
theorem ok__law_random (T : Tx K mg) : HasFn P w K mg base 1 "_law_random" P__law_random (F__law_random K) := by
  obtain ⟨f, fd, hm, Fu⟩ := T.f__law_random
  refine ⟨f, fd, hm, Fu.kp, fn_w Fu sc__law_random (fun ws c Q E => ?_) (fun cdv A outer s H E ws c Q Qx hr hF => ?_), Fu.binds fun _ _ _ _ _ _ us hl => match us, hl with | [_, _], _ => rfl⟩
  · rintro ⟨l, s, hc, hl, rfl, hq⟩; rfl
  obtain ⟨l, s, hc, hl, rfl, hq⟩ := hF
  have hnd : N__law_random.Nodup := sc__law_random.nd
  change WSs _ _ [_, _, _, _] _ _ _
  refine wss_cons ?_
  walk_at "w"
  refine wi_seq ?_
  walk_at "w"
  refine ⟨_, .inr ⟨_, rfl, rfl⟩, ?_⟩
  refine forask (fun i ρ' c' => c' = c ∧ ∃ (s2 : Int) (x1 : Option W), ρ' = [some (.im (.scr l)), some (.im (.int s)), some (.im (.int s2)), x1]) ⟨rfl, s, none, rfl⟩ (fun i d ρ' c' hd hP => ?_) (fun ρ' c' hP => ?_)
  · obtain ⟨rfl, s2, x1, rfl⟩ := hP
    rw [List.getElem?_map] at hd
    obtain ⟨r, hr1, rfl⟩ := Option.map_eq_some_iff.mp hd
    refine ⟨trivial, ?_⟩
    change WSs _ _ [_, _, _, _] _ _ _
    walk_at "w"
    exact ⟨rfl, _, _, rfl⟩
  · obtain ⟨rfl, s2, x1, rfl⟩ := hP
    walk_at "w"
    refine wi_seq ?_
    walk_at "w"
    refine ⟨_, .inr ⟨_, rfl, rfl⟩, ?_⟩
    refine lc_filter (fun d => match d with | .int i => decide (10 ^ 18 ≤ i) | _ => false) id (by rw [List.length_map]; omega) (fun i d hd => ⟨trivial, fun b => ?_⟩) (fun i d hd hp b => ?_) ?_
    · rw [List.getElem?_map] at hd
      obtain ⟨r, hr1, rfl⟩ := Option.map_eq_some_iff.mp hd
      walk_at "w"
      exact ⟨rfl, rfl⟩
    · walk_at "w"
      exact ⟨rfl, rfl⟩
    · have e : ((l.map D.int).filter (fun d => match d with | .int i => decide ((10 : Int) ^ 18 ≤ i) | _ => false)).map id = (l.filter fun i => decide ((10 : Int) ^ 18 ≤ i)).map D.int := by
        rw [List.map_id, List.filter_map]; rfl
      rw [e]
      have hz : (l.filter fun i => decide ((10 : Int) ^ 18 ≤ i)).length ≤ 63 := Nat.le_trans (List.length_filter_le _ _) hl
      refine wo_catC .im .im (by rw [List.length_map]; simp only [List.length_cons, List.length_nil]; omega) ?_
      refine RtOk.newL cel_0 ?_ (Nat.le_refl _) (clo_app hc)
      rw [take_app]
      exact hq ⟨s2, 0, l.filter fun i => decide ((10 : Int) ^ 18 ≤ i)⟩ (show (l.filter fun i => decide ((10 : Int) ^ 18 ≤ i)).length ≤ 1000 by omega)
local macro_rules | `(tactic| walk_at "call") => `(tactic| ((with_reducible show WE _ _ _ (.Call (.Name (Str.ofString "_law_random") _) _ _ _) _); with_reducible refine we_callF (ok__law_random (pf := by with_unfolding_all assumption) (by assumption)) (by with_unfolding_all exact ⟨rfl, rfl, rfl, rfl, rfl⟩) (by with_unfolding_all exact L2.Room.mono (by assumption) (by decide)) (by with_unfolding_all exact rfl) (by with_unfolding_all exact rfl) (by with_unfolding_all exact rfl) (by with_unfolding_all exact rfl) ?_))
theorem nm__law_below__law_d : nmB N__law_below (defScope s__law_below) "_law_d" 0 = true := by decide +kernel
theorem nm__law_below__law_size : nmB N__law_below (defScope s__law_below) "_law_size" 1 = true := by decide +kernel
theorem nm__law_below__law_result : nmB N__law_below (defScope s__law_below) "_law_result" 2 = true := by decide +kernel
theorem st__law_below__law_result : stB N__law_below (defScope s__law_below) "_law_result" 2 = true := by decide +kernel
local macro_rules | `(tactic| walk_at "n") => `(tactic| first
  | ((with_reducible show WE _ _ _ (.Name (Str.ofString "_law_d") _) _); with_reducible refine we_nm (by with_unfolding_all exact nm__law_below__law_d) (by with_unfolding_all exact rfl) ?_)
  | ((with_reducible show WE _ _ _ (.Name (Str.ofString "_law_size") _) _); with_reducible refine we_nm (by with_unfolding_all exact nm__law_below__law_size) (by with_unfolding_all exact rfl) ?_)
  | ((with_reducible show WE _ _ _ (.Name (Str.ofString "_law_result") _) _); with_reducible refine we_nm (by with_unfolding_all exact nm__law_below__law_result) (by with_unfolding_all exact rfl) ?_))
local macro_rules | `(tactic| walk_at "set") => `(tactic| first
  | ((with_reducible show WS _ _ _ _ (.Assign [.Name (Str.ofString "_law_result") _] _ _) _); with_reducible refine ws_st (by with_unfolding_all exact st__law_below__law_result) (by with_unfolding_all assumption) (by with_unfolding_all exact rfl) (by with_unfolding_all exact rfl) ?_))
local macro_rules | `(tactic| walk_at "aug") => `(tactic| first
  | ((with_reducible show WS _ _ _ _ (.AugAssign (.Name (Str.ofString "_law_result") _) _ _ _) _); with_reducible refine ws_ag (by with_unfolding_all exact st__law_below__law_result) (by with_unfolding_all assumption) (by with_unfolding_all exact rfl) (by with_unfolding_all exact rfl) ?_))
/-- _law_below -/
abbrev F__law_below (K : PySem.W.Frag) : FSp := fun ws c Q E => ∃ (n : Nat) (dr : Dr) (m : Int), c[n]? = some (.lst dr.l) ∧ dr.ok ∧ 0 < m ∧ Wid m ∧ ws = [.ce n, .im (.int m)] ∧ ∀ (dr' : Dr) (r : Int), dr'.ok → 0 ≤ r → r < m → Q (.im (.int r)) (c.set n (.lst dr'.l))
theorem ok__law_below (T : Tx K mg) : HasFn P w K mg base 1 "_law_below" P__law_below (F__law_below K) := by
  obtain ⟨f, fd, hm, Fu⟩ := T.f__law_below
  refine ⟨f, fd, hm, Fu.kp, fn_w Fu sc__law_below (fun ws c Q E => ?_) (fun cdv A outer s H E ws c Q Qx hr hF => ?_), Fu.binds fun _ _ _ _ _ _ us hl => match us, hl with | [_, _], _ => rfl⟩
  · rintro ⟨n, dr, m, hn, hd, hm, hw, rfl, hq⟩; rfl
  obtain ⟨n, dr, m, hn, hd, hm, hw, rfl, hq⟩ := hF
  have hnd : N__law_below.Nodup := sc__law_below.nd
  change WSs _ _ [_, _, _] _ _ _
  obtain ⟨sd, cu, rest⟩ := dr
  have hl : (D.int sd :: D.int cu :: rest.map D.int).length ≤ 1000000 := by
    have : rest.length ≤ 1000 := hd
    simp only [List.length_cons, List.length_map]; omega
  dsimp only [Dr.l] at hn
  refine wss_cut (fun ρ' c' => ∃ dr' : Dr, dr'.ok ∧ ρ' = [some (.ce n), some (.im (.int m)), none] ∧ c' = c.set n (.lst dr'.l)) ?_ (fun ρ' c' hP => ?_)
  · have self : c = c.set n (.lst (Dr.l ⟨sd, cu, rest⟩)) := (set_self hn).symm
    walk_at "w"
    by_cases h0 : cu = 0
    · refine iteDP h0 ?_
      walk_at "w"
      cases rest with
      | nil =>
        walk_at "w"
        exact ⟨_, hd, rfl, self⟩
      | cons x r =>
        have h2 : 2 < ((D.int sd :: D.int cu :: List.map D.int (x :: r)).length : Int) := by
          simp only [List.length_cons, List.map_cons]; omega
        refine iteDP h2 ?_
        walk_at "w"
        refine wm_popAtE (k := 2) (d := .int x) hn (by decide) seq_2 rfl rfl ?_
        have hn3 : (c.set n (.lst ((D.int sd :: D.int cu :: List.map D.int (x :: r)).eraseIdx 2)))[n]? = some (.lst (.int sd :: .int cu :: r.map D.int)) := cel_s hn
        walk_at "w"
        refine ⟨⟨sd, x, r⟩, ?_, rfl, rfl⟩
        have : (x :: r).length ≤ 1000 := hd
        show r.length ≤ 1000
        simp only [List.length_cons] at this; omega
    · refine iteDN h0 ?_
      walk_at "w"
      exact ⟨_, hd, rfl, self⟩
  · obtain ⟨⟨sd, cu, rest⟩, hd, rfl, rfl⟩ := hP
    have hn2 : (c.set n (.lst (.int sd :: .int cu :: rest.map D.int)))[n]? = some (.lst (.int sd :: .int cu :: rest.map D.int)) := cel_s hn
    dsimp only [Dr.l]
    walk_at "w"
    by_cases h1 : 0 < cu
    · refine iteDP h1 ?_
      walk_at "w"
      refine RtOk.all ?_
      exact hq ⟨sd, cu / m, rest⟩ _ hd (Int.emod_nonneg _ (by omega)) (Int.emod_lt_of_pos _ hm)
    · refine iteDN h1 ?_
      walk_at "w"
      refine RtOk.all ?_
      exact hq ⟨_, cu, rest⟩ _ hd (Int.emod_nonneg _ (by omega)) (Int.emod_lt_of_pos _ hm)
local macro_rules | `(tactic| walk_at "call") => `(tactic| ((with_reducible show WE _ _ _ (.Call (.Name (Str.ofString "_law_below") _) _ _ _) _); with_reducible refine we_callF (ok__law_below (pf := by with_unfolding_all assumption) (by assumption)) (by with_unfolding_all exact ⟨rfl, rfl, rfl, rfl, rfl⟩) (by with_unfolding_all exact L2.Room.mono (by assumption) (by decide)) (by with_unfolding_all exact rfl) (by with_unfolding_all exact rfl) (by with_unfolding_all exact rfl) (by with_unfolding_all exact rfl) ?_))
theorem nm__law_pick__law_d : nmB N__law_pick (defScope s__law_pick) "_law_d" 0 = true := by decide +kernel
theorem nm__law_pick__law_items : nmB N__law_pick (defScope s__law_pick) "_law_items" 1 = true := by decide +kernel
local macro_rules | `(tactic| walk_at "n") => `(tactic| first
  | ((with_reducible show WE _ _ _ (.Name (Str.ofString "_law_d") _) _); with_reducible refine we_nm (by with_unfolding_all exact nm__law_pick__law_d) (by with_unfolding_all exact rfl) ?_)
  | ((with_reducible show WE _ _ _ (.Name (Str.ofString "_law_items") _) _); with_reducible refine we_nm (by with_unfolding_all exact nm__law_pick__law_items) (by with_unfolding_all exact rfl) ?_))
/-- _law_pick -/
abbrev F__law_pick (K : PySem.W.Frag) : FSp := fun ws c Q E => ∃ (n : Nat) (dr : Dr) (l : List D), c[n]? = some (.lst dr.l) ∧ dr.ok ∧ 0 < l.length ∧ l.length ≤ 1000 ∧ ws = [.ce n, .im (.lst l)] ∧ ∀ (dr' : Dr) (x : D), dr'.ok → x ∈ l → Q (.im x) (c.set n (.lst dr'.l))
theorem ok__law_pick (T : Tx K mg) : HasFn P w K mg base 2 "_law_pick" P__law_pick (F__law_pick K) := by
  obtain ⟨f, fd, hm, Fu⟩ := T.f__law_pick
  refine ⟨f, fd, hm, Fu.kp, fn_w Fu sc__law_pick (fun ws c Q E => ?_) (fun cdv A outer s H E ws c Q Qx hr hF => ?_), Fu.binds fun _ _ _ _ _ _ us hl => match us, hl with | [_, _], _ => rfl⟩
  · rintro ⟨n, dr, l, hn, hd, hl, hl2, rfl, hq⟩; rfl
  obtain ⟨n, dr, l, hn, hd, hl, hl2, rfl, hq⟩ := hF
  have hnd : N__law_pick.Nodup := sc__law_pick.nd
  change WSs _ _ [_, _] _ _ _
  have hlen : l.length ≤ 1000000 := Nat.le_trans hl2 (by decide)
  refine wss_one ?_
  walk_at "w"
  refine ⟨n, dr, _, hn, hd, by omega, wid_of (by omega) (by omega), rfl, fun dr' r hd' h1 h2 => ?_⟩
  obtain ⟨k, rfl⟩ := Int.eq_ofNat_of_zero_le h1
  have hk : k < l.length := by omega
  have hat : L2.atI l (k : Int) = some l[k] := atI_nat hk
  walk_at "w"
  refine RtOk.all ?_
  exact hq dr' _ hd' (List.getElem_mem hk)
local macro_rules | `(tactic| walk_at "call") => `(tactic| ((with_reducible show WE _ _ _ (.Call (.Name (Str.ofString "_law_pick") _) _ _ _) _); with_reducible refine we_callF (ok__law_pick (pf := by with_unfolding_all assumption) (by assumption)) (by with_unfolding_all exact ⟨rfl, rfl, rfl, rfl, rfl⟩) (by with_unfolding_all exact L2.Room.mono (by assumption) (by decide)) (by with_unfolding_all exact rfl) (by with_unfolding_all exact rfl) (by with_unfolding_all exact rfl) (by with_unfolding_all exact rfl) ?_))
theorem nm__law_thrown__law_k : nmB N__law_thrown (defScope s__law_thrown) "_law_k" 0 = true := by decide +kernel
theorem nm__law_thrown__law_one : nmB N__law_thrown (defScope s__law_thrown) "_law_one" 1 = true := by decide +kernel
theorem nm__law_thrown__law_two : nmB N__law_thrown (defScope s__law_thrown) "_law_two" 2 = true := by decide +kernel
local macro_rules | `(tactic| walk_at "n") => `(tactic| first
  | ((with_reducible show WE _ _ _ (.Name (Str.ofString "_law_k") _) _); with_reducible refine we_nm (by with_unfolding_all exact nm__law_thrown__law_k) (by with_unfolding_all exact rfl) ?_)
  | ((with_reducible show WE _ _ _ (.Name (Str.ofString "_law_one") _) _); with_reducible refine we_nm (by with_unfolding_all exact nm__law_thrown__law_one) (by with_unfolding_all exact rfl) ?_)
  | ((with_reducible show WE _ _ _ (.Name (Str.ofString "_law_two") _) _); with_reducible refine we_nm (by with_unfolding_all exact nm__law_thrown__law_two) (by with_unfolding_all exact rfl) ?_))
theorem ok__law_thrown (T : Tx K mg) : ∃ f fd, mg "_law_thrown" = some (.ref f) ∧ PySem.W.keepIn K (.ref f) = true ∧ FnOk P w K mg base (L2N.CX P w) 4 f fd P__law_thrown (spT K) ∧ Binds K fd P__law_thrown [] := by
  obtain ⟨f, fd, hm, Fu⟩ := T.f__law_thrown
  refine ⟨f, fd, hm, Fu.kp, ?_, Fu.binds fun _ _ _ _ _ _ us hl => match us, hl with | [_, _, _], _ => rfl⟩
  obtain ⟨oc, od, kV, doc, pm, an, cdv, ct, osl, rfl, hlk, hcode⟩ := Fu.ex
  refine fn_of hlk hcode sc__law_thrown (fun vs H Q E h => ?_) (fun A outer s H vs Q E hr h => ?_)
  · obtain ⟨κ, ws, _, _, r, k, one, two, _, rfl, _⟩ := h
    rw [r.len]; rfl
  obtain ⟨κ, ws, rfl, o, r, k, one, two, hk, rfl, hE⟩ := h
  obtain ⟨Y, hY⟩ : ∃ Y, Y = cyN P w K mg base N__law_thrown "_law_thrown" (defScope s__law_thrown) f cdv A outer s κ.H E := ⟨_, rfl⟩
  have tkN : L2N.Takes (cyN P w K mg base N__law_thrown "_law_thrown" (defScope s__law_thrown) f cdv A outer s κ.H E).X (fun cls d _ H => E cls d H) := L2N.takes_of rfl rfl rfl rfl
  have hnd : N__law_thrown.Nodup := sc__law_thrown.nd
  refine ⟨wSs (cyN P w K mg base N__law_thrown "_law_thrown" (defScope s__law_thrown) f cdv A outer s κ.H E).X (defBody s__law_thrown), pss_w, ?_⟩
  have r0 : REnv K κ (L2.start N__law_thrown vs) [some (.im (.int (k : Nat))), some (.im one), some (.im two)] := start_env (N := N__law_thrown) r
  have g0 : ∀ κ', GoX (cyN P w K mg base N__law_thrown "_law_thrown" (defScope s__law_thrown) f cdv A outer s κ.H E) κ' (L2.start N__law_thrown vs) [some (.im (.int (k : Nat))), some (.im one), some (.im two)] := fun κ' => ⟨fun _ _ _ _ _ _ _ q => q.elim⟩
  have kc : k = 0 ∨ k = 1 ∨ k = 2 ∨ k = 3 := by omega
  generalize L2.start N__law_thrown vs = σ at r0 g0 ⊢
  refine wSs_if (Y := cyN P w K mg base N__law_thrown "_law_thrown" (defScope s__law_thrown) f cdv A outer s κ.H E) (decide ((k : Int) = 0)) (c := κ.c) ?_ rfl o r0 (g0 κ) (fun κ1 l1 o1 e1 r1 => ⟨fun hb => ?_, fun hb => ?_⟩)
  · walk_at "w"
    exact ⟨rfl, rfl⟩
  · obtain rfl : k = 0 := by have := of_decide_eq_true hb; omega
    exact PSs.w (pss_one ps_w) (wS_raise0N rfl tkN T.e_BadLand (by with_unfolding_all exact rfl) rfl (hE κ1 l1 o1 e1))
  have hk0 : ¬ k = 0 := by
    have := of_decide_eq_false hb; omega
  refine wSs_if (Y := cyN P w K mg base N__law_thrown "_law_thrown" (defScope s__law_thrown) f cdv A outer s κ.H E) (decide ((k : Int) = 1)) (c := κ.c) ?_ e1 o1 r1 (g0 κ1) (fun κ2 l2 o2 e2 r2 => ⟨fun hb => ?_, fun hb => ?_⟩)
  · walk_at "w"
    exact ⟨rfl, rfl⟩
  · obtain rfl : k = 1 := by have := of_decide_eq_true hb; omega
    exact PSs.w (pss_one ps_w) (wS_raise0N rfl tkN T.e_BadMoment (by with_unfolding_all exact rfl) rfl (hE κ2 (l1.trans l2) o2 e2))
  have hk1 : ¬ k = 1 := by
    have := of_decide_eq_false hb; omega
  refine wSs_if (Y := cyN P w K mg base N__law_thrown "_law_thrown" (defScope s__law_thrown) f cdv A outer s κ.H E) (decide ((k : Int) = 2)) (c := κ.c) ?_ e2 o2 r2 (g0 κ2) (fun κ3 l3 o3 e3 r3 => ⟨fun hb => ?_, fun hb => ?_⟩)
  · walk_at "w"
    exact ⟨rfl, rfl⟩
  · obtain rfl : k = 2 := by have := of_decide_eq_true hb; omega
    refine PSs.w (pss_one ps_w) (wS_raiseXN (P := P) (wd := w) (K := K) (mg := mg) (base := base) (Y := cyN P w K mg base N__law_thrown "_law_thrown" (defScope s__law_thrown) f cdv A outer s κ.H E) (ok_BadRules___init__ T) ⟨rfl, rfl, rfl, rfl, rfl⟩ rfl tkN (Room.mono hr (by decide)) (by with_unfolding_all exact rfl) rfl rfl rfl (by decide) (ds := [one]) rfl e3 o3 r3 (g0 κ3) ?_ (fun κ4 vs dx l4 o4 e4 rp hd => ?_))
    · walk_at "w"
      exact ⟨rfl, rfl⟩
    · obtain ⟨v, rr, rfl, h1, h2⟩ := rp
      have h2 : rr = [] := h2
      subst h2
      exact hE κ4 (((l1.trans l2).trans l3).trans l4) o4 e4 v dx h1 hd
  have hk2 : ¬ k = 2 := by
    have := of_decide_eq_false hb; omega
  obtain rfl : k = 3 := by omega
  refine PSs.w (pss_one ps_w) (wS_raiseXN (P := P) (wd := w) (K := K) (mg := mg) (base := base) (Y := cyN P w K mg base N__law_thrown "_law_thrown" (defScope s__law_thrown) f cdv A outer s κ.H E) (ok_BadText___init__ T) ⟨rfl, rfl, rfl, rfl, rfl⟩ rfl tkN (Room.mono hr (by decide)) (by with_unfolding_all exact rfl) rfl rfl rfl (by decide) (ds := [one, two]) rfl e3 o3 r3 (g0 κ3) ?_ (fun κ4 vs dx l4 o4 e4 rp hd => ?_))
  · walk_at "w"
    exact ⟨rfl, rfl⟩
  · obtain ⟨v, rr, rfl, h1, u, rr2, rfl, h2, h3⟩ := rp
    have h3 : rr2 = [] := h3
    subst h3
    exact hE κ4 (((l1.trans l2).trans l3).trans l4) o4 e4 v u dx h1 h2 hd
local macro_rules | `(tactic| walk_at "call") => `(tactic| ((with_reducible show WE _ _ _ (.Call (.Name (Str.ofString "_law_thrown") _) _ _ _) _); with_reducible refine we_callF (ok__law_thrown (pf := by with_unfolding_all assumption) (by assumption)) (by with_unfolding_all exact ⟨rfl, rfl, rfl, rfl, rfl⟩) (by with_unfolding_all exact L2.Room.mono (by assumption) (by decide)) (by with_unfolding_all exact rfl) (by with_unfolding_all exact rfl) (by with_unfolding_all exact rfl) (by with_unfolding_all exact rfl) ?_))
theorem nm__law_fields__law_k : nmB N__law_fields (defScope s__law_fields) "_law_k" 0 = true := by decide +kernel
theorem nm__law_fields__law_e : nmB N__law_fields (defScope s__law_fields) "_law_e" 1 = true := by decide +kernel
local macro_rules | `(tactic| walk_at "n") => `(tactic| first
  | ((with_reducible show WE _ _ _ (.Name (Str.ofString "_law_k") _) _); with_reducible refine we_nm (by with_unfolding_all exact nm__law_fields__law_k) (by with_unfolding_all exact rfl) ?_)
  | ((with_reducible show WE _ _ _ (.Name (Str.ofString "_law_e") _) _); with_reducible refine we_nm (by with_unfolding_all exact nm__law_fields__law_e) (by with_unfolding_all exact rfl) ?_))
abbrev FP__law_fields (K : PySem.W.Frag) (p : Addr × Obj) : FSp := fun ws c Q E => ∃ (k : Nat), clo c.length c = true ∧ ws = [.im (.int (k : Nat)), .im (.cls p.1)] ∧ (∃ vs, p.2.data = .fields vs) ∧
  ((k < 2 ∧ Q (.im (.lst [])) c) ∨ (∃ (n : Nat) (dx : Addr) (one : D), k = 2 ∧ Zc (.ref (He.ga K "BadRules")) (some dx) p.2 ∧ c[n]? = some (xdC K dx ["index"] [one]) ∧ Q (.im (.lst [one])) c) ∨
    (∃ (n : Nat) (dx : Addr) (one two : D), k = 3 ∧ Zc (.ref (He.ga K "BadText")) (some dx) p.2 ∧ c[n]? = some (xdC K dx ["word", "line"] [two, one]) ∧ Q (.im (.lst [one, two])) c))
theorem okP__law_fields (T : Tx K mg) (p : Addr × Obj) : HasFnP P w K mg base p 3 "_law_fields" P__law_fields (FP__law_fields K p) := by
  obtain ⟨f, fd, hm, Fu⟩ := T.f__law_fields
  refine ⟨f, fd, hm, Fu.kp, fn_wP Fu sc__law_fields (fun ws c Q E => ?_) (fun cdv A outer s H E ws c Q Qx hot hr hF => ?_), Fu.binds fun _ _ _ _ _ _ us hl => match us, hl with | [_, _], _ => rfl⟩
  · rintro ⟨k, _, rfl, _⟩; rfl
  obtain ⟨k, hcl, rfl, hf, hF⟩ := hF
  have hnd : N__law_fields.Nodup := sc__law_fields.nd
  have hpn : p ∈ (cyP P w K mg base N__law_fields "_law_fields" (defScope s__law_fields) f cdv A outer s H E p).X.pn := List.mem_cons_self
  change WSs _ _ [_, _] _ _ _
  refine wss_cons ?_
  rcases hF with ⟨hk, hq⟩ | ⟨n, dx, one, rfl, hz, hn, hq⟩ | ⟨n, dx, one, two, rfl, hz, hn, hq⟩
  · walk_at "w"
    have h2 : (decide ((k : Int) < 2)) = true := decide_eq_true (by omega)
    refine iteP h2 ?_
    walk_at "w"
  · walk_at "w"
    refine we_xfP (a := p.1) (oe := p.2) (D0 := He.ga K "BadRules") (n := n) (ns := ["index"]) (l := [one]) (dv := one) T.sx_BadRules.xf (T.sx_BadRules.no _ (by simp)) hz hf hpn (by with_unfolding_all exact rfl) ?_
    walk_at "n"
    refine ⟨rfl, hn, rfl, ?_⟩
    walk_at "w"
  · walk_at "w"
    refine we_xfP (a := p.1) (oe := p.2) (D0 := He.ga K "BadText") (n := n) (ns := ["word", "line"]) (l := [two, one]) (dv := one) T.sx_BadText.xf (T.sx_BadText.no _ (by simp)) hz hf hpn (by with_unfolding_all exact rfl) ?_
    walk_at "n"
    refine ⟨rfl, hn, rfl, ?_⟩
    walk_at "w"
    refine we_xfP (a := p.1) (oe := p.2) (D0 := He.ga K "BadText") (n := n) (ns := ["word", "line"]) (l := [two, one]) (dv := two) T.sx_BadText.xf (T.sx_BadText.no _ (by simp)) hz hf hpn (by with_unfolding_all exact rfl) ?_
    walk_at "n"
    refine ⟨rfl, hn, rfl, ?_⟩
    walk_at "w"
local macro_rules | `(tactic| walk_at "call") => `(tactic| ((with_reducible show WE _ _ _ (.Call (.Name (Str.ofString "_law_fields") _) _ _ _) _); with_reducible refine we_callF (ok__law_fields (pf := by with_unfolding_all assumption) (by assumption)) (by with_unfolding_all exact ⟨rfl, rfl, rfl, rfl, rfl⟩) (by with_unfolding_all exact L2.Room.mono (by assumption) (by decide)) (by with_unfolding_all exact rfl) (by with_unfolding_all exact rfl) (by with_unfolding_all exact rfl) (by with_unfolding_all exact rfl) ?_))
theorem nm_law__law_script : nmB N_law (defScope s_law) "_law_script" 0 = true := by decide +kernel
theorem nm_law__law_d : nmB N_law (defScope s_law) "_law_d" 1 = true := by decide +kernel
theorem st_law__law_d : stB N_law (defScope s_law) "_law_d" 1 = true := by decide +kernel
theorem nm_law__law_k : nmB N_law (defScope s_law) "_law_k" 2 = true := by decide +kernel
theorem st_law__law_k : stB N_law (defScope s_law) "_law_k" 2 = true := by decide +kernel
theorem nm_law__law_one : nmB N_law (defScope s_law) "_law_one" 3 = true := by decide +kernel
theorem st_law__law_one : stB N_law (defScope s_law) "_law_one" 3 = true := by decide +kernel
theorem nm_law__law_two : nmB N_law (defScope s_law) "_law_two" 4 = true := by decide +kernel
theorem st_law__law_two : stB N_law (defScope s_law) "_law_two" 4 = true := by decide +kernel
theorem nm_law__law_due : nmB N_law (defScope s_law) "_law_due" 5 = true := by decide +kernel
theorem st_law__law_due : stB N_law (defScope s_law) "_law_due" 5 = true := by decide +kernel
theorem nm_law__law_good : nmB N_law (defScope s_law) "_law_good" 6 = true := by decide +kernel
theorem st_law__law_good : stB N_law (defScope s_law) "_law_good" 6 = true := by decide +kernel
theorem nm_law__law_e : nmB N_law (defScope s_law) "_law_e" 7 = true := by decide +kernel
theorem nm_law__law_kinds : nmB N_law (defScope s_law) "_law_kinds" 8 = true := by decide +kernel
theorem st_law__law_kinds : stB N_law (defScope s_law) "_law_kinds" 8 = true := by decide +kernel
local macro_rules | `(tactic| walk_at "n") => `(tactic| first
  | ((with_reducible show WE _ _ _ (.Name (Str.ofString "_law_script") _) _); with_reducible refine we_nm (by with_unfolding_all exact nm_law__law_script) (by with_unfolding_all exact rfl) ?_)
  | ((with_reducible show WE _ _ _ (.Name (Str.ofString "_law_d") _) _); with_reducible refine we_nm (by with_unfolding_all exact nm_law__law_d) (by with_unfolding_all exact rfl) ?_)
  | ((with_reducible show WE _ _ _ (.Name (Str.ofString "_law_k") _) _); with_reducible refine we_nm (by with_unfolding_all exact nm_law__law_k) (by with_unfolding_all exact rfl) ?_)
  | ((with_reducible show WE _ _ _ (.Name (Str.ofString "_law_one") _) _); with_reducible refine we_nm (by with_unfolding_all exact nm_law__law_one) (by with_unfolding_all exact rfl) ?_)
  | ((with_reducible show WE _ _ _ (.Name (Str.ofString "_law_two") _) _); with_reducible refine we_nm (by with_unfolding_all exact nm_law__law_two) (by with_unfolding_all exact rfl) ?_)
  | ((with_reducible show WE _ _ _ (.Name (Str.ofString "_law_due") _) _); with_reducible refine we_nm (by with_unfolding_all exact nm_law__law_due) (by with_unfolding_all exact rfl) ?_)
  | ((with_reducible show WE _ _ _ (.Name (Str.ofString "_law_good") _) _); with_reducible refine we_nm (by with_unfolding_all exact nm_law__law_good) (by with_unfolding_all exact rfl) ?_)
  | ((with_reducible show WE _ _ _ (.Name (Str.ofString "_law_e") _) _); with_reducible refine we_nm (by with_unfolding_all exact nm_law__law_e) (by with_unfolding_all exact rfl) ?_)
  | ((with_reducible show WE _ _ _ (.Name (Str.ofString "_law_kinds") _) _); with_reducible refine we_nm (by with_unfolding_all exact nm_law__law_kinds) (by with_unfolding_all exact rfl) ?_))
local macro_rules | `(tactic| walk_at "set") => `(tactic| first
  | ((with_reducible show WS _ _ _ _ (.Assign [.Name (Str.ofString "_law_d") _] _ _) _); with_reducible refine ws_st (by with_unfolding_all exact st_law__law_d) (by with_unfolding_all assumption) (by with_unfolding_all exact rfl) (by with_unfolding_all exact rfl) ?_)
  | ((with_reducible show WS _ _ _ _ (.Assign [.Name (Str.ofString "_law_k") _] _ _) _); with_reducible refine ws_st (by with_unfolding_all exact st_law__law_k) (by with_unfolding_all assumption) (by with_unfolding_all exact rfl) (by with_unfolding_all exact rfl) ?_)
  | ((with_reducible show WS _ _ _ _ (.Assign [.Name (Str.ofString "_law_one") _] _ _) _); with_reducible refine ws_st (by with_unfolding_all exact st_law__law_one) (by with_unfolding_all assumption) (by with_unfolding_all exact rfl) (by with_unfolding_all exact rfl) ?_)
  | ((with_reducible show WS _ _ _ _ (.Assign [.Name (Str.ofString "_law_two") _] _ _) _); with_reducible refine ws_st (by with_unfolding_all exact st_law__law_two) (by with_unfolding_all assumption) (by with_unfolding_all exact rfl) (by with_unfolding_all exact rfl) ?_)
  | ((with_reducible show WS _ _ _ _ (.Assign [.Name (Str.ofString "_law_due") _] _ _) _); with_reducible refine ws_st (by with_unfolding_all exact st_law__law_due) (by with_unfolding_all assumption) (by with_unfolding_all exact rfl) (by with_unfolding_all exact rfl) ?_)
  | ((with_reducible show WS _ _ _ _ (.Assign [.Name (Str.ofString "_law_good") _] _ _) _); with_reducible refine ws_st (by with_unfolding_all exact st_law__law_good) (by with_unfolding_all assumption) (by with_unfolding_all exact rfl) (by with_unfolding_all exact rfl) ?_)
  | ((with_reducible show WS _ _ _ _ (.Assign [.Name (Str.ofString "_law_kinds") _] _ _) _); with_reducible refine ws_st (by with_unfolding_all exact st_law__law_kinds) (by with_unfolding_all assumption) (by with_unfolding_all exact rfl) (by with_unfolding_all exact rfl) ?_))
local macro_rules | `(tactic| walk_at "aug") => `(tactic| first
  | ((with_reducible show WS _ _ _ _ (.AugAssign (.Name (Str.ofString "_law_d") _) _ _ _) _); with_reducible refine ws_ag (by with_unfolding_all exact st_law__law_d) (by with_unfolding_all assumption) (by with_unfolding_all exact rfl) (by with_unfolding_all exact rfl) ?_)
  | ((with_reducible show WS _ _ _ _ (.AugAssign (.Name (Str.ofString "_law_k") _) _ _ _) _); with_reducible refine ws_ag (by with_unfolding_all exact st_law__law_k) (by with_unfolding_all assumption) (by with_unfolding_all exact rfl) (by with_unfolding_all exact rfl) ?_)
  | ((with_reducible show WS _ _ _ _ (.AugAssign (.Name (Str.ofString "_law_one") _) _ _ _) _); with_reducible refine ws_ag (by with_unfolding_all exact st_law__law_one) (by with_unfolding_all assumption) (by with_unfolding_all exact rfl) (by with_unfolding_all exact rfl) ?_)
  | ((with_reducible show WS _ _ _ _ (.AugAssign (.Name (Str.ofString "_law_two") _) _ _ _) _); with_reducible refine ws_ag (by with_unfolding_all exact st_law__law_two) (by with_unfolding_all assumption) (by with_unfolding_all exact rfl) (by with_unfolding_all exact rfl) ?_)
  | ((with_reducible show WS _ _ _ _ (.AugAssign (.Name (Str.ofString "_law_due") _) _ _ _) _); with_reducible refine ws_ag (by with_unfolding_all exact st_law__law_due) (by with_unfolding_all assumption) (by with_unfolding_all exact rfl) (by with_unfolding_all exact rfl) ?_)
  | ((with_reducible show WS _ _ _ _ (.AugAssign (.Name (Str.ofString "_law_good") _) _ _ _) _); with_reducible refine ws_ag (by with_unfolding_all exact st_law__law_good) (by with_unfolding_all assumption) (by with_unfolding_all exact rfl) (by with_unfolding_all exact rfl) ?_)
  | ((with_reducible show WS _ _ _ _ (.AugAssign (.Name (Str.ofString "_law_kinds") _) _ _ _) _); with_reducible refine ws_ag (by with_unfolding_all exact st_law__law_kinds) (by with_unfolding_all assumption) (by with_unfolding_all exact rfl) (by with_unfolding_all exact rfl) ?_))
local macro_rules | `(tactic| walk_at "lcH") => `(tactic| first
  | ((with_reducible show WE _ _ _ (.ListComp _ [⟨.Name (Str.ofString "_law_other") _, _, _, _⟩] _ _) _); with_reducible refine we_lcH (own := [(("_law_other" : Str), 9)]) (Tgt.nm 9) (by with_unfolding_all assumption) (by with_unfolding_all assumption) (by with_unfolding_all exact blkOk_by rfl) (by with_unfolding_all decide) (fun b => (by with_unfolding_all exact (pg_name (by with_unfolding_all assumption) (by with_unfolding_all exact rfl) (by with_unfolding_all first | exact Or.inl rfl | exact Or.inr rfl) (by with_unfolding_all first | exact .inl rfl | exact .inr rfl)))) ?_ (by with_unfolding_all (intro _; exact rfl))))
local macro_rules | `(tactic| walk_at "lc") => `(tactic| first
  | ((with_reducible show WE _ _ _ (.ListComp _ [⟨.Name (Str.ofString "_law_other") _, _, _, _⟩] _ _) _); with_reducible refine we_lc (own := [(("_law_other" : Str), 9)]) (Tgt.nm 9) (by with_unfolding_all exact rfl) (by with_unfolding_all assumption) (by with_unfolding_all exact blkOk_by rfl) (by with_unfolding_all decide) (fun b => (by with_unfolding_all exact (pg_name (by with_unfolding_all assumption) (by with_unfolding_all exact rfl) (by with_unfolding_all first | exact Or.inl rfl | exact Or.inr rfl) (by with_unfolding_all first | exact .inl rfl | exact .inr rfl)))) ?_ (by with_unfolding_all (intro _; exact rfl))))
local macro_rules | `(tactic| walk_at "for") => `(tactic| first
  | ((with_reducible show WS _ _ _ _ (.For (.Name (Str.ofString "_law_k") _) _ _ _ _) _); with_reducible refine ws_forF (Tgt.nm 2) (by with_unfolding_all exact rfl) (by with_unfolding_all exact (pg_name (by with_unfolding_all assumption) (by with_unfolding_all exact rfl) (by with_unfolding_all first | exact Or.inl rfl | exact Or.inr rfl) (by with_unfolding_all first | exact .inl rfl | exact .inr rfl))) (by with_unfolding_all (intro _; exact rfl)) ?_))
/-- law -/
abbrev F_law (K : PySem.W.Frag) : FSp := fun ws c Q E => ∃ (l : List Int), c = [] ∧ l.length ≤ 63 ∧ ws = [.im (.scr l)] ∧ Q (.im (.bl true)) []
theorem law_at (T : Tx K mg) : ∃ f fd, mg "law" = some (.ref f) ∧ (∀ (s : Shared) (u : Value), BindsTo s fd ⟨[u], []⟩ [("_law_script", u)]) ∧ ∀ (P : Program) [pf : PFile P] (w : World) (base : Heap), FnOk P w K mg base (L2.CX P w) 20 f fd ["_law_script"] (spOf K (F_law K)) := by
  obtain ⟨fd, FD⟩ := T.def_ (d := dd_law) 6 rfl
  have hm : mg "law" = some (.ref (He.fAd K ("law", none))) := by
    obtain ⟨_, h, X, G, cc⟩ := T.ex
    exact He.glo_ok X G (T.fact 6 rfl)
  have FD : FunD K "law" "law" (defArgs s_law) (defBody s_law) (defScope s_law) [] [] (He.fAd K ("law", none)) fd := FD
  have Fu := funD_fun FD
  have bb := FunD.bindsA (ps := ["_law_script"]) FD fun _ _ _ _ _ _ us hl => match us, hl with | [_], _ => rfl
  refine ⟨_, fd, hm, fun s v => bb s [v] rfl, fun P [pf : PFile P] w base => fn_w Fu sc_law (fun ws c Q E => ?_) (fun cdv A outer s H E ws c Q Qx hr hF => ?_)⟩
  · rintro ⟨l, rfl, hl, rfl, hq⟩; rfl
  obtain ⟨l, rfl, hl, rfl, hq⟩ := hF
  have hnd : N_law.Nodup := sc_law.nd
  change WSs _ _ [_, _, _, _, _, _, _, _, _, _] _ _ _
  obtain ⟨ft, fdt, hmT, hkT, hFT, hbT⟩ := ok__law_thrown (P := P) (w := w) (base := base) T
  have hrH : L2H.RoomH 19 (A.deeper (envOfC "law" (defScope s_law) s.heap.objs.size (He.fAd K ("law", none)) cdv)) := L2H.roomH_of hr
  refine wss_cons ?_
  walk_at "w"
  refine ⟨l, _, rfl, hl, rfl, fun dr hd => ?_⟩
  walk_at "w"
  refine forask (fun i ρ' c' => ∃ (dr' : Dr) (J : List Cell) (x2 x3 x4 x5 x6 x7 x8 : Option W), dr'.ok ∧ c' = [.lst dr'.l] ++ J ∧ ρ' = [some (.im (.scr l)), some (.ce 0), x2, x3, x4, x5, x6, x7, x8, none]) ⟨dr, [], none, none, none, none, none, none, none, hd, rfl, rfl⟩ (fun i d ρ' c' hi hP => ?_) (fun ρ' c' hP => ?_)
  · obtain ⟨dr1, J, x2, x3, x4, x5, x6, x7, x8, hd1, rfl, rfl⟩ := hP
    obtain ⟨hi4, rfl⟩ := rangeD_get hi
    have hi4 : i < 4 := hi4
    refine ⟨trivial, ?_⟩
    change WSs _ _ [_, _, _, _, _, _, _, _, _, _] _ _ _
    refine @wss_drop _ _ [.lst dr1.l] [some (.im (.scr l)), some (.ce 0), some (.im (.int (0 + (i : Int)))), none, none, none, none, none, none, none] _ _ _ J (by simp) rfl (by simp [DropOk, W.below]) ?_
    rw [Int.zero_add]
    walk_at "w"
    refine ⟨0, dr1, _, rfl, hd1, Nat.le_of_ble_eq_true rfl, Nat.le_of_ble_eq_true rfl, rfl, fun dr2 one hd2 h1 => ?_⟩
    dsimp only [List.set, List.length, List.nil_append]
    have p1 : Pl 3 one := by
      simp only [List.mem_cons, List.not_mem_nil, or_false] at h1
      rcases h1 with rfl | rfl | rfl | rfl | rfl | rfl
      · show PyData.strOk _ = true; decide +kernel
      · show PyData.strOk _ = true; decide +kernel
      · trivial
      · trivial
      · exact ⟨by simp, by simp [Pl]⟩
      · exact ⟨by simp, by simp [Pl]⟩
    clear h1
    walk_at "w"
    refine ⟨0, dr2, _, rfl, hd2, Nat.le_of_ble_eq_true rfl, Nat.le_of_ble_eq_true rfl, rfl, fun dr3 two hd3 h2 => ?_⟩
    dsimp only [List.set, List.length, List.nil_append]
    have p2 : Pl 3 two := by
      simp only [List.mem_cons, List.not_mem_nil, or_false] at h2
      rcases h2 with rfl | rfl | rfl | rfl
      · trivial
      · trivial
      · show PyData.strOk _ = true; decide +kernel
      · trivial
    clear h2
    have ic : i = 0 ∨ i = 1 ∨ i = 2 ∨ i = 3 := by omega
    have pl0 : Pl 4 (.lst []) := ⟨by simp, by simp⟩
    have pl1 : Pl 4 (.lst [one]) := ⟨by simp, fun z hz => by
      simp only [List.mem_cons, List.not_mem_nil, or_false] at hz
      subst hz; exact p1⟩
    have pl2 : Pl 4 (.lst [one, two]) := ⟨by simp, fun z hz => by
      simp only [List.mem_cons, List.not_mem_nil, or_false] at hz
      rcases hz with rfl | rfl <;> assumption⟩
    rcases ic with rfl | rfl | rfl | rfl
    · walk_at "w"
      refine ws_tryT (k := 0) (one := one) (two := two) (i := 7) (C := He.ga K "BellError") hFT ⟨rfl, rfl, rfl, rfl, rfl⟩ hmT hkT hbT (Room.mono hr (by decide)) (fun _ _ => by with_unfolding_all exact rfl) (by decide) rfl rfl rfl rfl rfl hnd rfl rfl ⟨by with_unfolding_all exact rfl, by decide, .inl T.g_BellError⟩ T.x_BadLand_BellError T.x_BadMoment_BellError T.x_BadRules_BellError T.x_BadText_BellError (by decide) (fun pn xe po => ?_) (fun D0 hD a oe pn hz hf => ?_) (fun D0 ns ls hD a oe pn dx hz hf => ?_)
      · walk_at "w"
        exact ⟨rfl, rfl⟩
      · rcases hD with ⟨h, rfl⟩ | ⟨h, rfl⟩
        · have hp : (a, oe) ∈ ((a, oe) :: pn) := List.mem_cons_self
          have hot : L2H.Hot1 ((A.deeper (envOfC "law" (defScope s_law) s.heap.objs.size (He.fAd K ("law", none)) cdv)).mark (some (.ref a))) (a, oe) := ⟨rfl, by obtain ⟨vs, hv⟩ := hf; exact ⟨vs, hv, hz.2.2 vs hv⟩⟩
          have hcc : L2H.HotC ((cyF P w K mg base N_law "law" (defScope s_law) (He.fAd K ("law", none)) cdv A outer s H E 0 Qx).suite a ((a, oe) :: pn)).X := ⟨(a, oe), hot, hp⟩
          have hrS : L2H.RoomH 19 ((A.deeper (envOfC "law" (defScope s_law) s.heap.objs.size (He.fAd K ("law", none)) cdv)).mark (some (.ref a))) := ⟨hrH.dp, hrH.un⟩
          have hx : XDat K [.lst dr3.l] [] [] none := .inl ⟨rfl, rfl, rfl⟩
          refine wss_cons ?_
          walk_at "w"
          refine wc_isP T.xi_BadLand hz.zc hf (by with_unfolding_all exact hp) hx T.ki_BadLand_BadLand ?_
          walk_at "w"
          refine wc_isP T.xi_BadLand hz.zc hf (by with_unfolding_all exact hp) hx T.ki_BadLand_BadMoment ?_
          walk_at "w"
          refine wc_isP T.xi_BadLand hz.zc hf (by with_unfolding_all exact hp) hx T.ki_BadLand_BadRules ?_
          walk_at "w"
          refine wc_isP T.xi_BadLand hz.zc hf (by with_unfolding_all exact hp) hx T.ki_BadLand_BadText ?_
          walk_at "w"
          refine wc_isPT T.xi_BadLand hz.zc hf (by with_unfolding_all exact hp) hx T.kv_BadLand ?_
          walk_at "w"
          walk_at "lcH"
          walk_at "wiH"
          walk_at "w"
          refine lcH_list [.bl true, .bl false, .bl false, .bl false] (by rw [rangeD_len]; rfl) (by rw [rangeD_len]; decide) (fun j d e hd he => ⟨trivial, fun bk => ?_⟩) ?_
          · obtain ⟨hj, rfl⟩ := rangeD_get hd
            have hj : j < 4 := hj
            walk_at "w"
            refine ⟨?_, rfl⟩
            have jc : j = 0 ∨ j = 1 ∨ j = 2 ∨ j = 3 := by omega
            rcases jc with rfl | rfl | rfl | rfl <;> (have he := Option.some.inj he; subst he; rfl)
          · walk_at "w"
            rw [show deq (.lst [.bl true, .bl false, .bl false, .bl false]) (.lst [.bl true, .bl false, .bl false, .bl false]) = true from by decide +kernel]
            refine we_callP (recP__law_equal (P := P) (w := w) (base := base) T (a, oe) 4) (by with_unfolding_all exact ⟨rfl, rfl, rfl, rfl, rfl⟩) (by with_unfolding_all exact L2H.RoomH.mono hrS (by decide)) (by with_unfolding_all exact hot) (by with_unfolding_all exact hp) (by with_unfolding_all exact rfl) (by with_unfolding_all exact rfl) (by with_unfolding_all exact rfl) (by with_unfolding_all exact rfl) ?_
            refine wa_cons ?_ (by with_unfolding_all exact rfl)
            refine we_callP (okP__law_fields (P := P) (w := w) (base := base) T (a, oe)) (by with_unfolding_all exact ⟨rfl, rfl, rfl, rfl, rfl⟩) (by with_unfolding_all exact L2H.RoomH.mono hrS (by decide)) (by with_unfolding_all exact hot) (by with_unfolding_all exact hp) (by with_unfolding_all exact rfl) (by with_unfolding_all exact rfl) (by with_unfolding_all exact rfl) (by with_unfolding_all exact rfl) ?_
            walk_at "w"
            refine ⟨0, rfl, rfl, hf, .inl ⟨by decide, ?_⟩⟩
            walk_at "w"
            refine ⟨_, _, pl0, pl0, rfl, ?_⟩
            rw [leq_refl pl0]
            walk_at "w"
            dsimp only [EndsW.un, List.set]
            walk_at "w"
            exact ⟨dr3, [], _, _, _, _, _, _, _, hd3, rfl, rfl⟩
        · exact absurd h (by decide)
      · rcases hD with ⟨h, _⟩ | ⟨h, _⟩ <;> exact absurd h (by decide)
    · walk_at "w"
      refine ws_tryT (k := 1) (one := one) (two := two) (i := 7) (C := He.ga K "BellError") hFT ⟨rfl, rfl, rfl, rfl, rfl⟩ hmT hkT hbT (Room.mono hr (by decide)) (fun _ _ => by with_unfolding_all exact rfl) (by decide) rfl rfl rfl rfl rfl hnd rfl rfl ⟨by with_unfolding_all exact rfl, by decide, .inl T.g_BellError⟩ T.x_BadLand_BellError T.x_BadMoment_BellError T.x_BadRules_BellError T.x_BadText_BellError (by decide) (fun pn xe po => ?_) (fun D0 hD a oe pn hz hf => ?_) (fun D0 ns ls hD a oe pn dx hz hf => ?_)
      · walk_at "w"
        exact ⟨rfl, rfl⟩
      · rcases hD with ⟨h, rfl⟩ | ⟨h, rfl⟩
        · exact absurd h (by decide)
        · have hp : (a, oe) ∈ ((a, oe) :: pn) := List.mem_cons_self
          have hot : L2H.Hot1 ((A.deeper (envOfC "law" (defScope s_law) s.heap.objs.size (He.fAd K ("law", none)) cdv)).mark (some (.ref a))) (a, oe) := ⟨rfl, by obtain ⟨vs, hv⟩ := hf; exact ⟨vs, hv, hz.2.2 vs hv⟩⟩
          have hcc : L2H.HotC ((cyF P w K mg base N_law "law" (defScope s_law) (He.fAd K ("law", none)) cdv A outer s H E 0 Qx).suite a ((a, oe) :: pn)).X := ⟨(a, oe), hot, hp⟩
          have hrS : L2H.RoomH 19 ((A.deeper (envOfC "law" (defScope s_law) s.heap.objs.size (He.fAd K ("law", none)) cdv)).mark (some (.ref a))) := ⟨hrH.dp, hrH.un⟩
          have hx : XDat K [.lst dr3.l] [] [] none := .inl ⟨rfl, rfl, rfl⟩
          refine wss_cons ?_
          walk_at "w"
          refine wc_isP T.xi_BadMoment hz.zc hf (by with_unfolding_all exact hp) hx T.ki_BadMoment_BadLand ?_
          walk_at "w"
          refine wc_isP T.xi_BadMoment hz.zc hf (by with_unfolding_all exact hp) hx T.ki_BadMoment_BadMoment ?_
          walk_at "w"
          refine wc_isP T.xi_BadMoment hz.zc hf (by with_unfolding_all exact hp) hx T.ki_BadMoment_BadRules ?_
          walk_at "w"
          refine wc_isP T.xi_BadMoment hz.zc hf (by with_unfolding_all exact hp) hx T.ki_BadMoment_BadText ?_
          walk_at "w"
          refine wc_isPT T.xi_BadMoment hz.zc hf (by with_unfolding_all exact hp) hx T.kv_BadMoment ?_
          walk_at "w"
          walk_at "lcH"
          walk_at "wiH"
          walk_at "w"
          refine lcH_list [.bl false, .bl true, .bl false, .bl false] (by rw [rangeD_len]; rfl) (by rw [rangeD_len]; decide) (fun j d e hd he => ⟨trivial, fun bk => ?_⟩) ?_
          · obtain ⟨hj, rfl⟩ := rangeD_get hd
            have hj : j < 4 := hj
            walk_at "w"
            refine ⟨?_, rfl⟩
            have jc : j = 0 ∨ j = 1 ∨ j = 2 ∨ j = 3 := by omega
            rcases jc with rfl | rfl | rfl | rfl <;> (have he := Option.some.inj he; subst he; rfl)
          · walk_at "w"
            rw [show deq (.lst [.bl false, .bl true, .bl false, .bl false]) (.lst [.bl false, .bl true, .bl false, .bl false]) = true from by decide +kernel]
            refine we_callP (recP__law_equal (P := P) (w := w) (base := base) T (a, oe) 4) (by with_unfolding_all exact ⟨rfl, rfl, rfl, rfl, rfl⟩) (by with_unfolding_all exact L2H.RoomH.mono hrS (by decide)) (by with_unfolding_all exact hot) (by with_unfolding_all exact hp) (by with_unfolding_all exact rfl) (by with_unfolding_all exact rfl) (by with_unfolding_all exact rfl) (by with_unfolding_all exact rfl) ?_
            refine wa_cons ?_ (by with_unfolding_all exact rfl)
            refine we_callP (okP__law_fields (P := P) (w := w) (base := base) T (a, oe)) (by with_unfolding_all exact ⟨rfl, rfl, rfl, rfl, rfl⟩) (by with_unfolding_all exact L2H.RoomH.mono hrS (by decide)) (by with_unfolding_all exact hot) (by with_unfolding_all exact hp) (by with_unfolding_all exact rfl) (by with_unfolding_all exact rfl) (by with_unfolding_all exact rfl) (by with_unfolding_all exact rfl) ?_
            walk_at "w"
            refine ⟨1, rfl, rfl, hf, .inl ⟨by decide, ?_⟩⟩
            walk_at "w"
            refine ⟨_, _, pl0, pl0, rfl, ?_⟩
            rw [leq_refl pl0]
            walk_at "w"
            dsimp only [EndsW.un, List.set]
            walk_at "w"
            exact ⟨dr3, [], _, _, _, _, _, _, _, hd3, rfl, rfl⟩
      · rcases hD with ⟨h, _⟩ | ⟨h, _⟩ <;> exact absurd h (by decide)
    · walk_at "w"
      refine ws_tryT (k := 2) (one := one) (two := two) (i := 7) (C := He.ga K "BellError") hFT ⟨rfl, rfl, rfl, rfl, rfl⟩ hmT hkT hbT (Room.mono hr (by decide)) (fun _ _ => by with_unfolding_all exact rfl) (by decide) rfl rfl rfl rfl rfl hnd rfl rfl ⟨by with_unfolding_all exact rfl, by decide, .inl T.g_BellError⟩ T.x_BadLand_BellError T.x_BadMoment_BellError T.x_BadRules_BellError T.x_BadText_BellError (by decide) (fun pn xe po => ?_) (fun D0 hD a oe pn hz hf => ?_) (fun D0 ns ls hD a oe pn dx hz hf => ?_)
      · walk_at "w"
        exact ⟨rfl, rfl⟩
      · rcases hD with ⟨h, _⟩ | ⟨h, _⟩ <;> exact absurd h (by decide)
      · rcases hD with ⟨h, rfl, rfl, rfl⟩ | ⟨h, rfl, rfl, rfl⟩
        · have hp : (a, oe) ∈ ((a, oe) :: pn) := List.mem_cons_self
          have hot : L2H.Hot1 ((A.deeper (envOfC "law" (defScope s_law) s.heap.objs.size (He.fAd K ("law", none)) cdv)).mark (some (.ref a))) (a, oe) := ⟨rfl, by obtain ⟨vs, hv⟩ := hf; exact ⟨vs, hv, hz.2.2 vs hv⟩⟩
          have hcc : L2H.HotC ((cyF P w K mg base N_law "law" (defScope s_law) (He.fAd K ("law", none)) cdv A outer s H E 0 Qx).suite a ((a, oe) :: pn)).X := ⟨(a, oe), hot, hp⟩
          have hrS : L2H.RoomH 19 ((A.deeper (envOfC "law" (defScope s_law) s.heap.objs.size (He.fAd K ("law", none)) cdv)).mark (some (.ref a))) := ⟨hrH.dp, hrH.un⟩
          have hx : XDat K ([.lst dr3.l] ++ [xdC K dx ["index"] [one]]) ["index"] [one] (some dx) := .inr ⟨dx, 1, rfl, rfl⟩
          refine wss_cons ?_
          walk_at "w"
          refine wc_isP T.xi_BadRules hz.zc hf (by with_unfolding_all exact hp) hx T.ki_BadRules_BadLand ?_
          walk_at "w"
          refine wc_isP T.xi_BadRules hz.zc hf (by with_unfolding_all exact hp) hx T.ki_BadRules_BadMoment ?_
          walk_at "w"
          refine wc_isP T.xi_BadRules hz.zc hf (by with_unfolding_all exact hp) hx T.ki_BadRules_BadRules ?_
          walk_at "w"
          refine wc_isP T.xi_BadRules hz.zc hf (by with_unfolding_all exact hp) hx T.ki_BadRules_BadText ?_
          walk_at "w"
          refine wc_isPT T.xi_BadRules hz.zc hf (by with_unfolding_all exact hp) hx T.kv_BadRules ?_
          walk_at "w"
          walk_at "lcH"
          walk_at "wiH"
          walk_at "w"
          refine lcH_list [.bl false, .bl false, .bl true, .bl false] (by rw [rangeD_len]; rfl) (by rw [rangeD_len]; decide) (fun j d e hd he => ⟨trivial, fun bk => ?_⟩) ?_
          · obtain ⟨hj, rfl⟩ := rangeD_get hd
            have hj : j < 4 := hj
            walk_at "w"
            refine ⟨?_, rfl⟩
            have jc : j = 0 ∨ j = 1 ∨ j = 2 ∨ j = 3 := by omega
            rcases jc with rfl | rfl | rfl | rfl <;> (have he := Option.some.inj he; subst he; rfl)
          · walk_at "w"
            rw [show deq (.lst [.bl false, .bl false, .bl true, .bl false]) (.lst [.bl false, .bl false, .bl true, .bl false]) = true from by decide +kernel]
            refine we_callP (recP__law_equal (P := P) (w := w) (base := base) T (a, oe) 4) (by with_unfolding_all exact ⟨rfl, rfl, rfl, rfl, rfl⟩) (by with_unfolding_all exact L2H.RoomH.mono hrS (by decide)) (by with_unfolding_all exact hot) (by with_unfolding_all exact hp) (by with_unfolding_all exact rfl) (by with_unfolding_all exact rfl) (by with_unfolding_all exact rfl) (by with_unfolding_all exact rfl) ?_
            refine wa_cons ?_ (by with_unfolding_all exact rfl)
            refine we_callP (okP__law_fields (P := P) (w := w) (base := base) T (a, oe)) (by with_unfolding_all exact ⟨rfl, rfl, rfl, rfl, rfl⟩) (by with_unfolding_all exact L2H.RoomH.mono hrS (by decide)) (by with_unfolding_all exact hot) (by with_unfolding_all exact hp) (by with_unfolding_all exact rfl) (by with_unfolding_all exact rfl) (by with_unfolding_all exact rfl) (by with_unfolding_all exact rfl) ?_
            walk_at "w"
            refine ⟨2, rfl, rfl, hf, .inr (.inl ⟨1, dx, one, rfl, hz.zc, rfl, ?_⟩)⟩
            walk_at "w"
            refine ⟨_, _, pl1, pl1, rfl, ?_⟩
            rw [leq_refl pl1]
            walk_at "w"
            dsimp only [EndsW.un, List.set]
            walk_at "w"
            exact ⟨dr3, [xdC K dx ["index"] [one]], _, _, _, _, _, _, _, hd3, rfl, rfl⟩
        · exact absurd h (by decide)
    · walk_at "w"
      refine ws_tryT (k := 3) (one := one) (two := two) (i := 7) (C := He.ga K "BellError") hFT ⟨rfl, rfl, rfl, rfl, rfl⟩ hmT hkT hbT (Room.mono hr (by decide)) (fun _ _ => by with_unfolding_all exact rfl) (by decide) rfl rfl rfl rfl rfl hnd rfl rfl ⟨by with_unfolding_all exact rfl, by decide, .inl T.g_BellError⟩ T.x_BadLand_BellError T.x_BadMoment_BellError T.x_BadRules_BellError T.x_BadText_BellError (by decide) (fun pn xe po => ?_) (fun D0 hD a oe pn hz hf => ?_) (fun D0 ns ls hD a oe pn dx hz hf => ?_)
      · walk_at "w"
        exact ⟨rfl, rfl⟩
      · rcases hD with ⟨h, _⟩ | ⟨h, _⟩ <;> exact absurd h (by decide)
      · rcases hD with ⟨h, rfl, rfl, rfl⟩ | ⟨h, rfl, rfl, rfl⟩
        · exact absurd h (by decide)
        · have hp : (a, oe) ∈ ((a, oe) :: pn) := List.mem_cons_self
          have hot : L2H.Hot1 ((A.deeper (envOfC "law" (defScope s_law) s.heap.objs.size (He.fAd K ("law", none)) cdv)).mark (some (.ref a))) (a, oe) := ⟨rfl, by obtain ⟨vs, hv⟩ := hf; exact ⟨vs, hv, hz.2.2 vs hv⟩⟩
          have hcc : L2H.HotC ((cyF P w K mg base N_law "law" (defScope s_law) (He.fAd K ("law", none)) cdv A outer s H E 0 Qx).suite a ((a, oe) :: pn)).X := ⟨(a, oe), hot, hp⟩
          have hrS : L2H.RoomH 19 ((A.deeper (envOfC "law" (defScope s_law) s.heap.objs.size (He.fAd K ("law", none)) cdv)).mark (some (.ref a))) := ⟨hrH.dp, hrH.un⟩
          have hx : XDat K ([.lst dr3.l] ++ [xdC K dx ["word", "line"] [two, one]]) ["word", "line"] [two, one] (some dx) := .inr ⟨dx, 1, rfl, rfl⟩
          refine wss_cons ?_
          walk_at "w"
          refine wc_isP T.xi_BadText hz.zc hf (by with_unfolding_all exact hp) hx T.ki_BadText_BadLand ?_
          walk_at "w"
          refine wc_isP T.xi_BadText hz.zc hf (by with_unfolding_all exact hp) hx T.ki_BadText_BadMoment ?_
          walk_at "w"
          refine wc_isP T.xi_BadText hz.zc hf (by with_unfolding_all exact hp) hx T.ki_BadText_BadRules ?_
          walk_at "w"
          refine wc_isP T.xi_BadText hz.zc hf (by with_unfolding_all exact hp) hx T.ki_BadText_BadText ?_
          walk_at "w"
          refine wc_isPT T.xi_BadText hz.zc hf (by with_unfolding_all exact hp) hx T.kv_BadText ?_
          walk_at "w"
          walk_at "lcH"
          walk_at "wiH"
          walk_at "w"
          refine lcH_list [.bl false, .bl false, .bl false, .bl true] (by rw [rangeD_len]; rfl) (by rw [rangeD_len]; decide) (fun j d e hd he => ⟨trivial, fun bk => ?_⟩) ?_
          · obtain ⟨hj, rfl⟩ := rangeD_get hd
            have hj : j < 4 := hj
            walk_at "w"
            refine ⟨?_, rfl⟩
            have jc : j = 0 ∨ j = 1 ∨ j = 2 ∨ j = 3 := by omega
            rcases jc with rfl | rfl | rfl | rfl <;> (have he := Option.some.inj he; subst he; rfl)
          · walk_at "w"
            rw [show deq (.lst [.bl false, .bl false, .bl false, .bl true]) (.lst [.bl false, .bl false, .bl false, .bl true]) = true from by decide +kernel]
            refine we_callP (recP__law_equal (P := P) (w := w) (base := base) T (a, oe) 4) (by with_unfolding_all exact ⟨rfl, rfl, rfl, rfl, rfl⟩) (by with_unfolding_all exact L2H.RoomH.mono hrS (by decide)) (by with_unfolding_all exact hot) (by with_unfolding_all exact hp) (by with_unfolding_all exact rfl) (by with_unfolding_all exact rfl) (by with_unfolding_all exact rfl) (by with_unfolding_all exact rfl) ?_
            refine wa_cons ?_ (by with_unfolding_all exact rfl)
            refine we_callP (okP__law_fields (P := P) (w := w) (base := base) T (a, oe)) (by with_unfolding_all exact ⟨rfl, rfl, rfl, rfl, rfl⟩) (by with_unfolding_all exact L2H.RoomH.mono hrS (by decide)) (by with_unfolding_all exact hot) (by with_unfolding_all exact hp) (by with_unfolding_all exact rfl) (by with_unfolding_all exact rfl) (by with_unfolding_all exact rfl) (by with_unfolding_all exact rfl) ?_
            walk_at "w"
            refine ⟨3, rfl, rfl, hf, .inr (.inr ⟨1, dx, one, two, rfl, hz.zc, rfl, ?_⟩)⟩
            walk_at "w"
            refine ⟨_, _, pl2, pl2, rfl, ?_⟩
            rw [leq_refl pl2]
            walk_at "w"
            dsimp only [EndsW.un, List.set]
            walk_at "w"
            exact ⟨dr3, [xdC K dx ["word", "line"] [two, one]], _, _, _, _, _, _, _, hd3, rfl, rfl⟩
  · obtain ⟨dr1, J, x2, x3, x4, x5, x6, x7, x8, hd1, rfl, rfl⟩ := hP
    walk_at "w"
    exact RtOk.im (show Q (.im (.bl true)) [] from hq) rfl
end
abbrev lawK : Nat := 20
theorem law_start {K : PySem.W.Frag} {H : Hp} {a : Addr} {ns : List Int} (ho : Only H) (hS : SqL K H a (ns.map V.int)) (hl : ns.length ≤ 63) : spOf K (F_law K) [.ref a] H (fun v _ => v = .bl true) fun _ _ _ => False := by
  refine ⟨⟨H, H, [], []⟩, [.im (.scr ns)], rfl, ⟨Ex.refl _, rfl, List.nodup_nil, (fun b hb => absurd hb List.not_mem_nil), (fun n b k h1 h2 => by simp at h1)⟩, ⟨.ref a, [], rfl, ⟨a, rfl, hS⟩, rfl⟩, fun w _ => w = .im (.bl true), fun _ _ => False, ⟨ns, rfl, hl, rfl, rfl⟩, fun v w κ' _ _ r e => ?_, fun _ _ _ _ _ _ _ z => z.elim⟩
  subst e
  exact r
set_option maxHeartbeats 0
end WL
open PySem PySem.W PySem.Calls PyProof.Rows
theorem PySem.Challenge.cw_hourbells_k13_errors_apart_holds : PySem.Challenge.rw_hourbells_k13_errors_apart.Holds := by
  w_on; o_law
  refine HandSHeadRun.head_any (r := OpenLaw.row PySem.Challenge.rw_hourbells_k13_errors_apart) (q := view (OpenLaw.row PySem.Challenge.rw_hourbells_k13_errors_apart).prog [13]) (H := WL.hk0) (ob := WL.ob0) (M := 4000) (loose := WL.loose0) (d := HandSHeadRun.topDef (OpenLaw.row PySem.Challenge.rw_hourbells_k13_errors_apart).prog 13) (kwd := []) WL.ob0_eq
    (by kernel_rfl) (fun s => by kernel_rfl) WL.run0 (by kernel_rfl) (by kernel_rfl) (by kernel_rfl) (by rfl) (by first | assumption | decide +kernel) (by decide +kernel) ⟨rfl, rfl, rfl, rfl, rfl, by decide +kernel⟩ ?hw ?hc
  case hw => w_witness2
  case hc =>
    haveI pf : WL.PFile PySem.Challenge.rw_hourbells_k13_errors_apart.prog := ⟨by kernel_rfl, by kernel_rfl⟩
    refine WL.walk_w (l := PySem.Challenge.rw_hourbells_k13_errors_apart) (n := 63) (k := WL.lawK) (x := "_law_script") rfl (by decide) (by kernel_rfl) ⟨rfl, by decide, by decide⟩ ?F
    intro w mg fa h Y G hmg0
    obtain ⟨K, KX, c⟩ := Y
    have hmg : mg ("law" : PySem.Str) = some (.ref fa) := by
      have e : (HandSHeadRun.topDef (OpenLaw.row PySem.Challenge.rw_hourbells_k13_errors_apart).prog 13).name = ("law" : PySem.Str) := by kernel_rfl
      rw [← e]
      exact hmg0
    obtain ⟨f, fd, hm, hb, hF⟩ := WL.law_at (K := K) (mg := mg) ⟨⟨w, h, KX, G, c⟩⟩
    have ef : f = fa := Value.ref.inj (Option.some.inj (hm.symm.trans hmg))
    subst ef
    exact ⟨K, fd, WL.spOf K (WL.F_law K), KX, hb, fun H a ns hl ho hS => WL.law_start ho hS hl, fun base _ _ => hF _ w base⟩
