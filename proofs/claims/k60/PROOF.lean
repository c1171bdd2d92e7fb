import PyProof.Rows.All
import Wide.All
import OpenK.AllK
import Wide.FinOn
import HandS.ForMost
import HandS.ForExc
import HandS.Walk
import HandS.IsInst
import HandS.Gcd
import HandS.Codes
import HandS.Conv
import HandS.SortInts
import HandS.Style
import HandS.TryMany
import HandS.ExcInit
import HandS.ExcField
import HandS.Evl
import HandS.SetFor
import HandS.Strs
import KE.DatumOrd
import HandS.ClsMeth
import HandS.WordsExc
import PySem.Challenge.RW_semigroupbench_k60_members_and_gaps
set_option Elab.async false
set_option linter.all false
set_option maxRecDepth 100000
set_option maxHeartbeats 2000000
/-! Sb1: worlds over the hand layer. A world is what stands for good (k), what stands (h), the one box (a list of four cells that some defs draw from) and a bound of its count. -/
namespace Sb
open PySem PySem.Spec PyProof.Rows L2

abbrev MAXC : Nat := 100000000
/-- the box: digits left, a flag, a rest, a count -/
def BoxAt (H : Hp) (a : Addr) (c : Nat) : Prop := ∃ (d r t : Int) (g : Bool), H a = some (.lst [.int d, .bl g, .int r, .int t]) ∧ 0 ≤ d ∧ 0 ≤ r ∧ r < 2147483629 ∧ 0 ≤ t ∧ t ≤ c
structure Wo where
  k : Hp
  h : Hp
  b : Option Addr
  c : Nat
  ext : Same k h
  bx : ∀ a, b = some a → k a = none ∧ BoxAt h a c

/-- grown: nothing that stood has changed but the box -/
structure Le (w v : Wo) : Prop where
  b : v.b = w.b
  k : Same w.k v.k
  h : ∀ a o, w.b ≠ some a → w.h a = some o → v.h a = some o
  own : ∀ a o, w.h a = some o → w.k a = none → v.k a = none
  c : w.c ≤ v.c
/-- later: what stands for good stands, what is owned is owned -/
structure Lk (w v : Wo) : Prop where
  b : v.b = w.b
  k : Same w.k v.k
  own : ∀ a o, w.h a = some o → w.k a = none → v.k a = none ∧ ∃ u, v.h a = some u
  c : w.c ≤ v.c

theorem Le.refl (w : Wo) : Le w w := ⟨rfl, Same.refl _, fun _ _ _ h => h, fun _ _ _ h => h, Nat.le_refl _⟩
theorem Lk.refl (w : Wo) : Lk w w := ⟨rfl, Same.refl _, fun _ o h n => ⟨n, o, h⟩, Nat.le_refl _⟩
theorem Le.there {w v : Wo} (e : Le w v) {a : Addr} {o : HO} (h : w.h a = some o) : ∃ u, v.h a = some u := by
  by_cases hb : w.b = some a
  · obtain ⟨_, d, r, t, g, q, _⟩ := v.bx a (by rw [e.b, hb])
    exact ⟨_, q⟩
  · exact ⟨o, e.h a o hb h⟩
theorem Le.trans {w v u : Wo} (a : Le w v) (b : Le v u) : Le w u where
  b := b.b.trans a.b
  k := a.k.trans b.k
  h := fun x o hb h => b.h x o (by rw [a.b]; exact hb) (a.h x o hb h)
  own := fun x o h n => by
    obtain ⟨o', h'⟩ := a.there h
    exact b.own x o' h' (a.own x o h n)
  c := Nat.le_trans a.c b.c
theorem Le.lk {w v : Wo} (a : Le w v) : Lk w v := ⟨a.b, a.k, fun x o h n => ⟨a.own x o h n, a.there h⟩, a.c⟩
theorem Lk.trans {w v u : Wo} (a : Lk w v) (b : Lk v u) : Lk w u where
  b := b.b.trans a.b
  k := a.k.trans b.k
  own := fun x o h n => by
    obtain ⟨n1, o1, h1⟩ := a.own x o h n
    exact b.own x o1 h1 n1
  c := Nat.le_trans a.c b.c
theorem Le.fresh {w v : Wo} (e : Le w v) {p : Addr} (h : v.h p = none) : w.h p = none := by
  cases q : w.h p with
  | none => rfl
  | some o =>
    obtain ⟨u, z⟩ := e.there q
    rw [h] at z
    cases z
theorem Lk.fresh {w v : Wo} (e : Lk w v) {p : Addr} (h : v.h p = none) : w.h p = none := by
  cases q : w.h p with
  | none => rfl
  | some o =>
    cases qk : w.k p with
    | none =>
      obtain ⟨_, u, z⟩ := e.own p o q qk
      rw [h] at z
      cases z
    | some o' =>
      have z := v.ext p _ (e.k p _ qk)
      rw [h] at z
      cases z
theorem same_new {H : Hp} {p : Addr} {o : HO} (h : H p = none) : Same H (upd H p o) := fun b x e => by
  rw [upd_ne (ne_of_none e h)]
  exact e
theorem BoxAt.ne {H : Hp} {a p : Addr} {c : Nat} (b : BoxAt H a c) (h : H p = none) : a ≠ p := by
  obtain ⟨d, r, t, g, q, _⟩ := b
  exact ne_of_none q h
theorem BoxAt.upd {H : Hp} {a p : Addr} {c : Nat} {o : HO} (b : BoxAt H a c) (h : a ≠ p) : BoxAt (upd H p o) a c := by
  obtain ⟨d, r, t, g, q, z⟩ := b
  exact ⟨d, r, t, g, by rw [upd_ne h]; exact q, z⟩
theorem BoxAt.mono {H : Hp} {a : Addr} {c c' : Nat} (b : BoxAt H a c) (h : c ≤ c') : BoxAt H a c' := by
  obtain ⟨d, r, t, g, q, h1, h2, h3, h4, h5⟩ := b
  exact ⟨d, r, t, g, q, h1, h2, h3, h4, by omega⟩

/-- a new thing that stands for good -/
def Wo.newK (w : Wo) (p : Addr) (o : HO) (hp : w.h p = none) : Wo where
  k := upd w.k p o
  h := upd w.h p o
  b := w.b
  c := w.c
  ext := fun a x e => by
    by_cases ha : a = p
    · subst ha
      rw [upd_same] at e ⊢
      exact e
    · rw [upd_ne ha] at e ⊢
      exact w.ext a x e
  bx := fun a e => by
    obtain ⟨n, q⟩ := w.bx a e
    have ne := q.ne hp
    exact ⟨by rw [upd_ne ne]; exact n, q.upd ne⟩
/-- a new thing that is owned -/
def Wo.newO (w : Wo) (p : Addr) (o : HO) (hp : w.h p = none) : Wo where
  k := w.k
  h := upd w.h p o
  b := w.b
  c := w.c
  ext := w.ext.trans (same_new hp)
  bx := fun a e => by
    obtain ⟨n, q⟩ := w.bx a e
    exact ⟨n, q.upd (q.ne hp)⟩
/-- an owned thing is changed -/
def Wo.put (w : Wo) (p : Addr) (o : HO) (hk : w.k p = none) (hb : w.b ≠ some p) : Wo where
  k := w.k
  h := upd w.h p o
  b := w.b
  c := w.c
  ext := fun a x e => by
    rw [upd_ne (ne_of_none e hk)]
    exact w.ext a x e
  bx := fun a e => by
    obtain ⟨n, q⟩ := w.bx a e
    exact ⟨n, q.upd fun z => hb (by rw [e, z])⟩
/-- an owned thing stands for good from now on -/
def Wo.frz (w : Wo) (p : Addr) (o : HO) (hp : w.h p = some o) (hb : w.b ≠ some p) : Wo where
  k := upd w.k p o
  h := w.h
  b := w.b
  c := w.c
  ext := fun a x e => by
    by_cases ha : a = p
    · subst ha
      rw [upd_same] at e
      rw [hp]
      exact e
    · rw [upd_ne ha] at e
      exact w.ext a x e
  bx := fun a e => by
    obtain ⟨n, q⟩ := w.bx a e
    exact ⟨by rw [upd_ne fun z => hb (by rw [e, z])]; exact n, q⟩
/-- the box is changed -/
def Wo.box (w : Wo) (a : Addr) (c : Nat) (o : HO) (hb : w.b = some a) (q : BoxAt (upd w.h a o) a c) : Wo where
  k := w.k
  h := upd w.h a o
  b := w.b
  c := c
  ext := fun x u e => by
    have hk := (w.bx a hb).1
    rw [upd_ne (ne_of_none e hk)]
    exact w.ext x u e
  bx := fun x e => by
    have ex : x = a := Option.some.inj (e.symm.trans hb)
    subst ex
    exact ⟨(w.bx x hb).1, q⟩
theorem le_newK {w : Wo} {p : Addr} {o : HO} (hp : w.h p = none) (hk : w.k p = none := by first | assumption | rfl) : Le w (w.newK p o hp) where
  b := rfl
  k := same_new hk
  h := fun a x _ e => same_new hp a x e
  own := fun a x e n => by
    show upd w.k p o a = none
    rw [upd_ne (ne_of_none e hp)]
    exact n
  c := Nat.le_refl _
theorem k_none {w : Wo} {p : Addr} (hp : w.h p = none) : w.k p = none := Same.free w.ext hp
theorem le_newO {w : Wo} {p : Addr} {o : HO} (hp : w.h p = none) : Le w (w.newO p o hp) where
  b := rfl
  k := Same.refl _
  h := fun a x _ e => same_new hp a x e
  own := fun a x e n => n
  c := Nat.le_refl _
theorem lk_put {w : Wo} {p : Addr} {o o' : HO} (hk : w.k p = none) (hb : w.b ≠ some p) : Lk w (w.put p o hk hb) where
  b := rfl
  k := Same.refl _
  own := fun a x e n => ⟨n, by
    by_cases ha : a = p
    · exact ⟨o, by rw [ha]; exact upd_same⟩
    · exact ⟨x, by show upd w.h p o a = some x; rw [upd_ne ha]; exact e⟩⟩
  c := Nat.le_refl _
/-- .. and nothing changes that stood in an elder world where it did not stand -/
theorem Le.put {w0 w : Wo} (e : Le w0 w) {p : Addr} {o : HO} (hk : w.k p = none) (hb : w.b ≠ some p) (h0 : w0.h p = none) : Le w0 (w.put p o hk hb) where
  b := e.b
  k := e.k
  h := fun a x nb h => by
    show upd w.h p o a = some x
    rw [upd_ne (ne_of_none h h0)]
    exact e.h a x nb h
  own := fun a x h n => e.own a x h n
  c := e.c
theorem Le.frz {w0 w : Wo} (e : Le w0 w) {p : Addr} {o : HO} (hp : w.h p = some o) (hb : w.b ≠ some p) (h0 : w0.h p = none) (hk : w.k p = none) : Le w0 (w.frz p o hp hb) where
  b := e.b
  k := fun a x h => by
    show upd w.k p o a = some x
    have h1 := e.k a x h
    rw [upd_ne (ne_of_none h1 hk)]
    exact h1
  h := fun a x nb h => e.h a x nb h
  own := fun a x h n => by
    show upd w.k p o a = none
    rw [upd_ne (ne_of_none h h0)]
    exact e.own a x h n
  c := e.c
theorem le_box {w : Wo} {a : Addr} {c : Nat} {o : HO} (hb : w.b = some a) (q : BoxAt (upd w.h a o) a c) (hc : w.c ≤ c) : Le w (w.box a c o hb q) where
  b := rfl
  k := Same.refl _
  h := fun x u nb h => by
    show upd w.h a o x = some u
    rw [upd_ne fun z => nb (by rw [z]; exact hb)]
    exact h
  own := fun x u h n => n
  c := hc
/-- a thing new since w0 is no box -/
theorem Le.nobox {w0 w : Wo} (e : Le w0 w) {p : Addr} (h0 : w0.h p = none) : w.b ≠ some p := fun z => by
  rw [e.b] at z
  obtain ⟨_, d, r, t, g, q, _⟩ := w0.bx p z
  rw [h0] at q
  cases q
theorem nobox_k {w : Wo} {p : Addr} {o : HO} (h : w.k p = some o) : w.b ≠ some p := fun z => by
  obtain ⟨n, _⟩ := w.bx p z
  rw [h] at n
  cases n

/-! ### data -/
mutual
inductive Dat (K : PySem.W.Frag) (H : Hp) : V → PyData → Prop
  | non : Dat K H .non .none
  | bl (b : Bool) : Dat K H (.bl b) (.bool b)
  | int (i : Int) : Dat K H (.int i) (.int i)
  | str (x : Str) : Dat K H (.str x) (.str x)
  | lst {a : Addr} {xs : List V} {ds : List PyData} : H a = some (.lst xs) → Dats K H xs ds → Dat K H (.ref a) (.list ds)
  | tup {a : Addr} {xs : List V} {ds : List PyData} : H a = some (.tup xs) → Dats K H xs ds → Dat K H (.ref a) (.tuple ds)
  | dic {a : Addr} {kvs : List (Key × V)} {ds : List PyData} : H a = some (.dK kvs) → (kvs.map (·.1)).Nodup → Dats K H (kvs.map (·.2)) ds → Dat K H (.ref a) (.dict ((kvs.map (·.1)).zipWith (fun q d => (match q with | .inl i => PyData.int i | .inr x => PyData.str x, d)) ds))
inductive Dats (K : PySem.W.Frag) (H : Hp) : List V → List PyData → Prop
  | nil : Dats K H [] []
  | cons {v : V} {vs : List V} {d : PyData} {ds : List PyData} : Dat K H v d → Dats K H vs ds → Dats K H (v :: vs) (d :: ds)
end
section
variable {K : PySem.W.Frag} {H H' : Hp}
mutual
theorem Dat.mono (e : Same H H') : ∀ {v : V} {d : PyData}, Dat K H v d → Dat K H' v d
  | _, _, .non => .non
  | _, _, .bl b => .bl b
  | _, _, .int b => .int b
  | _, _, .str b => .str b
  | _, _, .lst h q => .lst (e _ _ h) (Dats.mono e q)
  | _, _, .tup h q => .tup (e _ _ h) (Dats.mono e q)
  | _, _, .dic h n q => .dic (e _ _ h) n (Dats.mono e q)
theorem Dats.mono (e : Same H H') : ∀ {v : List V} {d : List PyData}, Dats K H v d → Dats K H' v d
  | _, _, .nil => .nil
  | _, _, .cons a b => .cons (Dat.mono e a) (Dats.mono e b)
end
theorem Dats.ints : ∀ ns : List Int, Dats K H (ns.map V.int) (ns.map PyData.int)
  | [] => .nil
  | n :: r => .cons (.int n) (Dats.ints r)
theorem Dats.length : ∀ {v : List V} {d : List PyData}, Dats K H v d → v.length = d.length
  | _, _, .nil => rfl
  | _, _, .cons _ b => congrArg (· + 1) (Dats.length b)
theorem Dats.get : ∀ {v : List V} {d : List PyData} {i : Nat} {x : V}, Dats K H v d → v[i]? = some x → ∃ y, d[i]? = some y ∧ Dat K H x y
  | _, _, 0, _, .cons a _, e => by
    have e := Option.some.inj e
    subst e
    exact ⟨_, rfl, a⟩
  | _, _, i + 1, _, .cons _ b, e => Dats.get (i := i) b e
theorem Dats.getD : ∀ {v : List V} {d : List PyData} {i : Nat} {y : PyData}, Dats K H v d → d[i]? = some y → ∃ x, v[i]? = some x ∧ Dat K H x y
  | _, _, 0, _, .cons a _, e => by
    have e := Option.some.inj e
    subst e
    exact ⟨_, rfl, a⟩
  | _, _, i + 1, _, .cons _ b, e => Dats.getD (i := i) b e
theorem Dats.append : ∀ {v u : List V} {d e : List PyData}, Dats K H v d → Dats K H u e → Dats K H (v ++ u) (d ++ e)
  | _, _, _, _, .nil, q => q
  | _, _, _, _, .cons a b, q => .cons a (Dats.append b q)
theorem Dats.vints : ∀ {v : List V} {ns : List Int}, Dats K H v (ns.map PyData.int) → v = ns.map V.int
  | _, [], .nil => rfl
  | _, n :: r, .cons (.int _) b => by rw [Dats.vints b]; rfl
theorem Dat.vint {v : V} {i : Int} (h : Dat K H v (.int i)) : v = .int i := by
  cases h
  rfl
end

/-! ### new things -/
section
variable {w : Wo} {Q : V → Hp → Prop} {o : HO}
theorem al_k (q : ∀ p (v : Wo), Le w v → v.c = w.c → w.h p = none → v.k p = some o → Q (.ref p) v.h) : ∀ p, w.h p = none → Q (.ref p) (upd w.h p o) := fun p hp =>
  q p (w.newK p o hp) (le_newK hp (k_none hp)) rfl hp upd_same
theorem al_o (q : ∀ p (v : Wo), Le w v → v.c = w.c → w.h p = none → v.h p = some o → v.k p = none → v.k = w.k → Q (.ref p) v.h) : ∀ p, w.h p = none → Q (.ref p) (upd w.h p o) := fun p hp =>
  q p (w.newO p o hp) (le_newO hp) rfl hp upd_same (k_none (w := w) hp) rfl
end
/-- an owned thing is changed: the world behind it -/
theorem put_w {w0 w : Wo} (e : Le w0 w) {p : Addr} {o o' : HO} (hp : w.h p = some o) (hk : w.k p = none) (h0 : w0.h p = none) : ∃ v : Wo, v.h = upd w.h p o' ∧ v.k = w.k ∧ v.c = w.c ∧ Le w0 v ∧ Lk w v ∧ v.h p = some o' ∧ v.k p = none :=
  ⟨w.put p o' hk (e.nobox h0), rfl, rfl, rfl, e.put hk (e.nobox h0) h0, lk_put (o' := o') hk (e.nobox h0), upd_same, hk⟩

/-! ### promises -/
/-- a def that raises nothing and draws at most n times; g: what its promise speaks of -/
def SpG {γ : Type} (n : γ → Nat) (pre : γ → Wo → List V → Prop) (post : γ → Wo → V → Wo → Prop) : Sp := fun vs H Q _ => ∃ (g : γ) (w : Wo), w.h = H ∧ w.c + n g ≤ MAXC ∧ pre g w vs ∧ ∀ v u, Le w u → u.c ≤ w.c + n g → post g w v u → Q v u.h

/-! ### loops -/
section
variable {K : PySem.W.Frag} {J : It} {n : Nat} {G : Hp → Prop} {Y : Nat → Hp → V → Hp → Prop}
/-- what a turn is to reach -/
def At (I : L2.St → Wo → Prop) : L2.St → Hp → Prop := fun σ H => ∃ v : Wo, v.h = H ∧ I σ v
theorem for_w {g : TG} {tb : TS} {D : Ends} {σ : L2.St} {w : Wo} (W : Walk J n G Y) (I : Nat → L2.St → Wo → Prop) (h0 : I 0 σ w) (hG : ∀ i σ v, i ≤ n → I i σ v → G v.h)
    (hs : ∀ i x σ v H', i < n → I i σ v → Y i v.h x H' → g x σ H' fun σ2 H2 => tb { D with nx := At (I (i + 1)), ct := At (I (i + 1)), bk := D.nx } σ2 H2) (hd : ∀ σ v, I n σ v → D.nx σ v.h) :
    ∃ W : Nat → Nat → L2.St → Hp → Prop, (∃ m, W 0 m σ w.h) ∧ ∀ i m σ H, W i m σ H →
      (J.stop i H ∧ D.nx σ H) ∨ (J.go i H ∧ ∃ N : L2.St → Hp → Prop, (∀ σ' H', N σ' H' → ∃ m', m' < m ∧ W (i + 1) m' σ' H') ∧ ∀ x H', J.yld i H x H' → g x σ H' fun σ2 H2 => tb { D with nx := N, ct := N, bk := D.nx } σ2 H2) :=
  for_it W (fun i σ H => At (I i) σ H) ⟨w, rfl, h0⟩ (fun i σ H hi p => by
    obtain ⟨v, rfl, q⟩ := p
    exact hG i σ v hi q) (fun i x σ H H' hi p y => by
    obtain ⟨v, rfl, q⟩ := p
    exact hs i x σ v H' hi q y) (fun σ H p => by
    obtain ⟨v, rfl, q⟩ := p
    exact hd σ v q)
/-- over a list that stands -/
theorem for_l {g : TG} {tb : TS} {D : Ends} {σ : L2.St} {w : Wo} {a : Addr} {xs : List V} (I : Nat → L2.St → Wo → Prop) (h0 : I 0 σ w) (hG : ∀ i σ v, i ≤ xs.length → I i σ v → SqL K v.h a xs)
    (hs : ∀ i x σ v, xs[i]? = some x → I i σ v → g x σ v.h fun σ2 H2 => tb { D with nx := At (I (i + 1)), ct := At (I (i + 1)), bk := D.nx } σ2 H2) (hd : ∀ σ v, I xs.length σ v → D.nx σ v.h) :
    ∃ W : Nat → Nat → L2.St → Hp → Prop, (∃ m, W 0 m σ w.h) ∧ ∀ i m σ H, W i m σ H →
      ((Itl K a).stop i H ∧ D.nx σ H) ∨ ((Itl K a).go i H ∧ ∃ N : L2.St → Hp → Prop, (∀ σ' H', N σ' H' → ∃ m', m' < m ∧ W (i + 1) m' σ' H') ∧ ∀ x H', (Itl K a).yld i H x H' → g x σ H' fun σ2 H2 => tb { D with nx := N, ct := N, bk := D.nx } σ2 H2) :=
  for_w walk_list I h0 hG (fun i x σ v H' hi q y => by
    obtain ⟨rfl, e⟩ := y
    exact hs i x σ v e q) hd
theorem for_r {g : TG} {tb : TS} {D : Ends} {σ : L2.St} {w : Wo} {lo : Int} {n : Nat} (I : Nat → L2.St → Wo → Prop) (h0 : I 0 σ w)
    (hs : ∀ i σ v, i < n → I i σ v → g (.int (lo + i)) σ v.h fun σ2 H2 => tb { D with nx := At (I (i + 1)), ct := At (I (i + 1)), bk := D.nx } σ2 H2) (hd : ∀ σ v, I n σ v → D.nx σ v.h) :
    ∃ W : Nat → Nat → L2.St → Hp → Prop, (∃ m, W 0 m σ w.h) ∧ ∀ i m σ H, W i m σ H →
      ((Itr lo n).stop i H ∧ D.nx σ H) ∨ ((Itr lo n).go i H ∧ ∃ N : L2.St → Hp → Prop, (∀ σ' H', N σ' H' → ∃ m', m' < m ∧ W (i + 1) m' σ' H') ∧ ∀ x H', (Itr lo n).yld i H x H' → g x σ H' fun σ2 H2 => tb { D with nx := N, ct := N, bk := D.nx } σ2 H2) :=
  for_w walk_range I h0 (fun _ _ _ _ _ => trivial) (fun i x σ v H' hi q y => by
    obtain ⟨rfl, rfl⟩ := y
    exact hs i σ v hi q) hd
end

/-! ### comprehensions: I says what the items so far are, over what stands for good; m draws a turn -/
section
variable {K : PySem.W.Frag} {J : It} {n : Nat} {G : Hp → Prop} {Y : Nat → Hp → V → Hp → Prop}
structure LcI (w : Wo) (m : Nat) (I : Nat → List V → Hp → Prop) (D : Addr) (i : Nat) (v : Wo) (acc : List V) : Prop where
  le : Le w v
  c : v.c ≤ w.c + i * m
  h : v.h D = some (.lst acc)
  k : v.k D = none
  len : acc.length ≤ i
  inv : I i acc v.k
theorem lc_w {g : TG} {tt : TT} {te : TE} {vs : List Nat} {σ : L2.St} {w : Wo} {Q : VK} (W : Walk J n G Y) (m : Nat) (I : Nat → List V → Hp → Prop) (h0 : I 0 [] w.k) (hn : n ≤ 1000000) (hG : ∀ v, Le w v → G v.h)
    (hs : ∀ i x acc (v : Wo) H', i < n → Le w v → v.c ≤ w.c + i * m → I i acc v.k → Y i v.h x H' → ∀ (Qy : VK) (Qn : Hp → Prop),
      (∀ y (u : Wo), Le v u → u.c ≤ v.c + m → I (i + 1) (acc ++ [y]) u.k → Qy y u.h) → (∀ u : Wo, Le v u → u.c ≤ v.c + m → I (i + 1) acc u.k → Qn u.h) →
      g x (wipe σ vs) H' fun σ2 H2 => wipe σ2 vs = wipe σ vs ∧ tt σ2 H2 fun b H3 => if b = true then te σ2 H3 Qy else Qn H3)
    (hd : ∀ p xs (v : Wo), Le w v → v.c ≤ w.c + n * m → w.h p = none → v.h p = some (.lst xs) → v.k p = none → I n xs v.k → Q (.ref p) v.h) :
    ∀ D, w.h D = none → ∃ W : Nat → Nat → Hp → Prop, (∃ m, W 0 m (upd w.h D (.lst []))) ∧ ∀ i m H, W i m H →
      (J.stop i H ∧ Q (.ref D) H) ∨ (J.go i H ∧ ∃ Nx : Hp → Prop, (∀ H', Nx H' → ∃ m', m' < m ∧ W (i + 1) m' H') ∧ ∀ x H', J.yld i H x H' → g x (wipe σ vs) H' fun σ2 H2 => wipe σ2 vs = wipe σ vs ∧ tt σ2 H2 fun b H3 =>
        if b = true then te σ2 H3 fun y H4 => ∃ acc, H4 D = some (.lst acc) ∧ acc.length < sizeLine ∧ Nx (upd H4 D (.lst (acc ++ [y]))) else Nx H3) := fun D hD => by
  refine lc_it W (fun i H => ∃ v acc, v.h = H ∧ LcI w m I D i v acc) ⟨w.newO D (.lst []) hD, [], rfl, le_newO hD, Nat.le_add_right _ _, upd_same, (k_none hD : w.k D = none), Nat.le_refl _, h0⟩ (fun i H hi p => ?_) (fun i x H H' hi p y => ?_) (fun H p => ?_)
  · obtain ⟨v, acc, rfl, q⟩ := p
    exact hG v q.le
  · obtain ⟨v, acc, rfl, q⟩ := p
    have hmul : (i + 1) * m = i * m + m := Nat.succ_mul i m
    refine hs i x acc v H' hi q.le q.c q.inv y _ _ (fun y u l hc hI => ?_) (fun u l hc hI => ?_)
    · have nb := q.le.nobox hD
      have hh := l.h D _ nb q.h
      have hk := l.own D _ q.h q.k
      refine ⟨acc, hh, small (by have := q.len; omega), u.put D (.lst (acc ++ [y])) hk ((q.le.trans l).nobox hD), acc ++ [y], rfl, (q.le.trans l).put hk ((q.le.trans l).nobox hD) hD, ?_, upd_same, hk, ?_, hI⟩
      · show u.c ≤ _
        have := q.c
        omega
      · rw [List.length_append, List.length_singleton]
        have := q.len
        omega
    · refine ⟨u, acc, rfl, q.le.trans l, ?_, l.h D _ (q.le.nobox hD) q.h, l.own D _ q.h q.k, Nat.le_succ_of_le q.len, hI⟩
      have := q.c
      omega
  · obtain ⟨v, acc, rfl, q⟩ := p
    exact hd D acc v q.le q.c hD q.h q.k q.inv
where
  small {k : Nat} (h : k < 1000000) : k < sizeLine := Nat.lt_of_lt_of_le h (by decide)
end
end Sb
set_option Elab.async false
set_option linter.all false
set_option maxRecDepth 100000
set_option maxHeartbeats 2000000
/-! Sb2: further rules of the hand layer that the laws want. -/
namespace Sb
open PySem PySem.Spec PyProof.Rows L2

/-- a list or a tuple that is to be read -/
def SqS (K : PySem.W.Frag) (H : Hp) (a : Addr) (xs : List V) : Prop := SqL K H a xs ∨ SqT K H a xs
section
variable {X : Cx} {tg l : Expr} {tl : TE}
def iSeq (K : PySem.W.Frag) (tl : TE) : TI := fun σ H R => tl σ H fun x H1 => ∃ a, x = .ref a ∧ (((∃ xs, SqL K H1 a xs) ∧ R (Itl K a) H1) ∨ ((∃ xs, SqT K H1 a xs) ∧ R (Itt K a) H1))
theorem pi_seq (hl : PE X l tl) : PI X tg l (iSeq X.K tl) := by
  refine ⟨fun pins s σ H R I h => ?_⟩
  refine thn (hl.run pins s σ H _ I h) fun v s1 q0 => ?_
  obtain ⟨x, H1, I1, r1, a, e, q⟩ := q0
  subst e
  rcases q with ⟨⟨xs, hq⟩, q⟩ | ⟨⟨xs, hq⟩, q⟩
  · cases r1
    obtain ⟨its, rv, p, hz⟩ := I1.list hq
    refine wpAny_pyIter_list p.isList ?_
    refine ⟨s1.heap.objs.size, [s1.heap.objs.size], _, _, H1, rfl, I1.kept (t' := s1.toks) fun b o e => Heap.get?_push_of_some _ e, turn_list a _, ⟨_, Heap.get?_push_size _ rfl, rfl, rfl⟩, fun b hb => ?_, q⟩
    rw [List.mem_singleton.mp hb]
    exact I1.fpOk (Nat.le_refl _) (I1.hok.fresh (Nat.le_refl _))
  · cases r1
    obtain ⟨its, rv, p, hz⟩ := I1.tuple hq
    refine wpAny_pyIter_tuple (show s1.heap.IsTuple a its.toArray from p) ?_
    refine ⟨s1.heap.objs.size, [s1.heap.objs.size], _, _, H1, rfl, I1.kept (t' := s1.toks) fun b o e => Heap.get?_push_of_some _ e, turn_tuple a _, ⟨_, Heap.get?_push_size _ rfl, rfl, rfl⟩, fun b hb => ?_, q⟩
    rw [List.mem_singleton.mp hb]
    exact I1.fpOk (Nat.le_refl _) (I1.hok.fresh (Nat.le_refl _))
end

/-! ### defs that are called by their names -/
/-- a def under its name: what it keeps, how its arguments come to it -/
structure Cal (P : Program) (w : World) (K : PySem.W.Frag) (mg : Str → Option Value) (base : Heap) (CX : CXT) (k : Nat) (x : Str) (ps : List Str) (sp : Sp) : Prop where
  ex : ∃ (f : Addr) (fd : FuncData), FnOk P w K mg base CX k f fd ps sp ∧ mg x = some (.ref f) ∧ PySem.W.keepIn K (.ref f) = true ∧ Binds K fd ps [] ∧ ∃ oc od osl, K.lookup f = some ⟨oc, od, .func fd, osl⟩
/-- .. by keywords alone, in the order ks; g puts them in the parameters' order -/
structure CalK (P : Program) (w : World) (K : PySem.W.Frag) (mg : Str → Option Value) (base : Heap) (CX : CXT) (k : Nat) (x : Str) (ks : List Str) (g : {α : Type} → List α → List α) (sp : Sp) : Prop where
  ex : ∃ (f : Addr) (fd : FuncData) (ps : List Str), FnOk P w K mg base CX k f fd ps sp ∧ mg x = some (.ref f) ∧ PySem.W.keepIn K (.ref f) = true ∧
    (∀ (s : Shared) (ws : List Value), (g ws).length = ps.length → BindsTo s fd ⟨[], ks.zip ws⟩ (ps.zip (g ws))) ∧ ∀ {vs : List V} {ws : List Value}, Vals vs ws → Vals (g vs) (g ws)
section
variable {X : Cx} {CX : CXT} {k j : Nat} {x : Str} {ps ks : List Str} {g : {α : Type} → List α → List α} {sp : Sp} {E : XK} {p pos : Pos} {e : Expr} {es : List Expr} {kws : List Keyword} {t tk : TA}
theorem pe_cc (c : Cal X.prog X.w X.K X.mg X.base CX0 k x ps sp) (hr : Room j X.A) (hk : k ≤ j) (hg : Gl X x) (ha : PA X (e :: es) t)
    (hdb : (x == ("__debug__" : Str)) = false := by decide) (he : starEach (e :: es) X.env = (false, eval e X.env) :: starEach es X.env := by rfl) (hpl : (backTo pos (starEach es X.env)).any (·.1) = false := by rfl) :
    PE X (.Call (.Name x p) (e :: es) [] pos) (tCall sp [] E0 t) := by
  obtain ⟨f, fd, F, hm, kp, b, _⟩ := c.ex
  exact pe_call F (hr.mono hk) hg hm kp b .nil pass0 ha hdb he hpl
/-- what it raises is wished for at the caller's slots -/
theorem pe_cS {E : L2.St → XK} (c : Cal X.prog X.w X.K X.mg X.base (L2.CX X.prog X.w) k x ps sp) (hr : Room j X.A) (hk : k ≤ j) (hg : Gl X x) (hx : ∀ σ, PassesAt (L2.CX X.prog X.w) X σ (E σ)) (ha : PA X (e :: es) t)
    (hdb : (x == ("__debug__" : Str)) = false := by decide) (he : starEach (e :: es) X.env = (false, eval e X.env) :: starEach es X.env := by rfl) (hpl : (backTo pos (starEach es X.env)).any (·.1) = false := by rfl) :
    PE X (.Call (.Name x p) (e :: es) [] pos) (tCallS sp E t) := by
  obtain ⟨f, fd, F, hm, kp, b, _⟩ := c.ex
  exact pe_callS F (hr.mono hk) hg hm kp b hx ha hdb he hpl
def tCallKS (sp : Sp) (g : {α : Type} → List α → List α) (E : L2.St → XK) (tk : TA) : TE := fun σ H Q => tk σ H fun zs H2 => sp (g zs) H2 Q (E σ)
theorem pe_ckS {E : L2.St → XK} (c : CalK X.prog X.w X.K X.mg X.base CX k x ks g sp) (hr : Room j X.A) (hk : k ≤ j) (hg : Gl X x) (hx : ∀ σ, PassesAt CX X σ (E σ)) (hkw : PK X kws tk)
    (hall : (backToKw pos (keywordEach kws X.env)).all (·.1.isSome) = true := by rfl) (hks : (backToKw pos (keywordEach kws X.env)).filterMap (·.1) = ks := by rfl) (hdb : (x == ("__debug__" : Str)) = false := by decide)
    (hpl : ((backTo pos (starEach [] X.env)).any (·.1) || (backToKw pos (keywordEach kws X.env)).any (·.1.isNone)) = false := by rfl) :
    PE X (.Call (.Name x p) [] kws pos) (tCallKS sp g E tk) := by
  obtain ⟨f, fd, ps, F, hm, kp, b, rel⟩ := c.ex
  refine ⟨fun pins s σ H Q I h => ?_⟩
  refine wpAny_Call_Name_kw (ld_glob I hg hm ?_ hdb)
  refine PySem.W.callWith_KW0 (h₀ := X.base) I.ok.mod.kin kp hall ?_ hpl
  refine thn (hkw.run pos pins s σ H _ I h) fun ws s2 ⟨zs, H2, I2, rz, q2⟩ => ⟨I2.kIn, ?_⟩
  rw [hks]
  have r2 := rel rz
  have hl : (g ws).length = ps.length := by
    rw [← r2.length]
    exact F.len _ _ _ _ q2
  refine wpAny_call (codeAny_mono (F.run X.A X.stack s2 H2 ⟨[], ks.zip ws⟩ (g ws) (g zs) Q (E σ) (hr.mono hk) I2.env0 (b s2 ws hl) r2 q2) fun r s' hq => ?_)
  cases r with
  | error e => exact hx σ pins H2 s2 e s' I2 hq
  | ok fl =>
    cases fl with
    | ret u => exact I2.after hq
    | next => exact False.elim hq
    | brk => exact False.elim hq
    | cont => exact False.elim hq
end

/-! ### what the top has of a def -/
structure Df (K : PySem.W.Frag) (mg : Str → Option Value) (x : Str) (st : Stmt) : Prop where
  ex : ∃ (f : Addr) (fd : FuncData), Fun K x x st f fd ∧ mg x = some (.ref f)
section
variable {P : Program} {w : World} {K : PySem.W.Frag} {mg : Str → Option Value} {base : Heap} {x : Str} {st : Stmt} {N ps : List Str} {k : Nat}
abbrev BindsBy (x : Str) (st : Stmt) (ps : List Str) : Prop := ∀ (kV doc pm : Value) (an : Option Addr) (cdv ct : Value) (us : List Value), us.length = ps.length → bindArgs (PySem.W.fnOf x x (defArgs st) (defBody st) (defScope st) .none kV doc pm an cdv ct) ⟨us, []⟩ = pure (ps.zip us)
theorem fun_lk {q : Str} {f : Addr} {fd : FuncData} (F : Fun K x q st f fd) : ∃ oc od osl, K.lookup f = some ⟨oc, od, .func fd, osl⟩ := by
  obtain ⟨oc, od, kV, doc, pm, an, cdv, ct, osl, _, lk, _⟩ := F.ex
  exact ⟨oc, od, osl, lk⟩
theorem Df.cal {γ : Type} (D : Df K mg x st) (S : FnScope N ps (defScope st)) (b : BindsBy x st ps) {n : γ → Nat} {pre : γ → Wo → List V → Prop} {post : γ → Wo → V → Wo → Prop} (len : ∀ g w vs, pre g w vs → vs.length = ps.length)
    (body : ∀ (qual : Str) (f : Addr) (cdv : Value) (A : Around) (outer : List Env) (s : Shared) (E : XK) (g : γ) (w0 : Wo) (vs : List V) (Q : VK), Room k (A.deeper (envOfC qual (defScope st) s.heap.objs.size f cdv)) → w0.c + n g ≤ MAXC → pre g w0 vs →
      (∀ v u, Le w0 u → u.c ≤ w0.c + n g → post g w0 v u → Q v u.h) →
      ∃ t, PSs (cxOf CX0 P w K mg base N qual (defScope st) f cdv A outer s w0.h E).nox (defBody st) t ∧ t { nx := fun _ H' => Q .non H', rt := Q } (start N vs) w0.h) :
    Cal P w K mg base CX0 (k + 1) x ps (SpG n pre post) := by
  obtain ⟨f, fd, F, hm⟩ := D.ex
  refine ⟨f, fd, F.ok S (fun vs H Q E h => ?_) (fun cdv A outer s H vs Q E hr h => ?_), hm, F.kp, F.binds b, fun_lk F⟩
  · obtain ⟨g, w0, _, _, hp, _⟩ := h
    exact len g w0 vs hp
  · obtain ⟨g, w0, rfl, hc, hp, hq⟩ := h
    exact body x f cdv A outer s E g w0 vs Q hr hc hp hq
/-- by keywords, of what is known by places -/
theorem Cal.kw {CX : CXT} {k : Nat} {sp : Sp} {ks : List Str} {g : {α : Type} → List α → List α} (c : Cal P w K mg base CX k x ps sp) (D : Df K mg x st)
    (bk : ∀ (kV doc pm : Value) (an : Option Addr) (cdv ct : Value) (us : List Value), (g us).length = ps.length → bindArgs (PySem.W.fnOf x x (defArgs st) (defBody st) (defScope st) .none kV doc pm an cdv ct) ⟨[], ks.zip us⟩ = pure (ps.zip (g us)))
    (rel : ∀ {vs : List V} {ws : List Value}, Vals vs ws → Vals (g vs) (g ws)) : CalK P w K mg base CX k x ks g sp := by
  obtain ⟨f, fd, F, hm, kp, b, oc, od, osl, lk⟩ := c.ex
  obtain ⟨f', fd', F', hm'⟩ := D.ex
  rw [hm] at hm'
  cases hm'
  obtain ⟨oc', od', kV, doc, pm, an, cdv, ct, osl', rfl, lk', _⟩ := F'.ex
  rw [lk] at lk'
  cases lk'
  exact ⟨f, _, ps, F, hm, kp, fun s ws hl => .of_eq (bk _ _ _ _ _ _ ws hl), rel⟩
end

/-! ### isinstance of data -/
def tyD : PyData → String
  | .none => "NoneType" | .bool _ => "bool" | .int _ => "int" | .str _ => "str" | .list _ => "list" | .tuple _ => "tuple" | .dict _ => "dict"
def isD (n : String) (d : PyData) : Bool := match d with
  | .none => false | .bool _ => n == "bool" || n == "int" | .int _ => n == "int" | .str _ => n == "str" | .list _ => n == "list" | .tuple _ => n == "tuple" | .dict _ => n == "dict"
section
variable {K : PySem.W.Frag} {H : Hp} {v : V} {d : PyData} {Q : VK}
theorem tyx (h : Dat K H v d) : TyX K H v (.type (tyD d)) := by
  cases h with
  | non => exact .base .non
  | bl b => exact .base (.bl b)
  | int i => exact .base (.int i)
  | str x => exact .base (.str x)
  | lst e _ => exact .base (.lst e)
  | tup e _ => exact .base (.tup e)
  | dic e _ _ => exact .base (.dK e)
theorem kit_int (d : PyData) : kitB (tyD d) "int" = some (isD "int" d) := by cases d <;> (simp only [tyD, isD]; decide +kernel)
theorem kit_bool (d : PyData) : kitB (tyD d) "bool" = some (isD "bool" d) := by cases d <;> (simp only [tyD, isD]; decide +kernel)
theorem kit_str (d : PyData) : kitB (tyD d) "str" = some (isD "str" d) := by cases d <;> (simp only [tyD, isD]; decide +kernel)
theorem kit_list (d : PyData) : kitB (tyD d) "list" = some (isD "list" d) := by cases d <;> (simp only [tyD, isD]; decide +kernel)
theorem kit_tuple (d : PyData) : kitB (tyD d) "tuple" = some (isD "tuple" d) := by cases d <;> (simp only [tyD, isD]; decide +kernel)
theorem kit_dict (d : PyData) : kitB (tyD d) "dict" = some (isD "dict" d) := by cases d <;> (simp only [tyD, isD]; decide +kernel)
theorem isi {n : String} (h : Dat K H v d) (e : kitB (tyD d) n = some (isD n d)) (q : Q (.bl (isD n d)) H) : rIsi K [v, .ty n] H Q :=
  ⟨v, .ty n, _, _, _, rfl, .ty n, tyx h, kit_ty e, q⟩
theorem isi_t {n : String} (h : Dat K H v d) (e : kitB (tyD d) n = some (isD n d)) (hb : isD n d = true) (q : Q (.bl true) H) : rIsi K [v, .ty n] H Q := isi h e (by rw [hb]; exact q)
theorem isi_f {n : String} (h : Dat K H v d) (e : kitB (tyD d) n = some (isD n d)) (hb : isD n d = false) (q : Q (.bl false) H) : rIsi K [v, .ty n] H Q := isi h e (by rw [hb]; exact q)
theorem dat_dict {l : List (PyData × PyData)} (h : Dat K H v (.dict l)) : ∃ a kvs, v = .ref a ∧ H a = some (.dK kvs) ∧ (l = [] → kvs = []) := by
  generalize hd : PyData.dict l = d at h
  cases h with
  | @dic a kvs ds e n q =>
    refine ⟨a, kvs, rfl, e, fun hl => ?_⟩
    have h1 := PyData.dict.inj hd
    rw [hl] at h1
    have h2 := congrArg List.length h1
    have h3 := q.length
    rw [List.length_zipWith, List.length_map] at h2
    rw [List.length_map] at h3
    apply List.eq_nil_of_length_eq_zero
    simp only [List.length_nil] at h2
    omega
  | _ => cases hd
/-- a list or a tuple, and what it holds -/
def isSeq : PyData → Bool
  | .list _ => true
  | .tuple _ => true
  | _ => false
def itemsD : PyData → List PyData
  | .list l => l
  | .tuple l => l
  | _ => []
theorem seq_of (h : Dat K H v d) (s : isSeq d = true) : ∃ a xs, v = .ref a ∧ SqS K H a xs ∧ Dats K H xs (itemsD d) := by
  cases h with
  | lst e q => exact ⟨_, _, rfl, .inl (.inl (.inl e)), q⟩
  | tup e q => exact ⟨_, _, rfl, .inr (.inl (.inl e)), q⟩
  | _ => cases s
theorem isi2 {n m : String} {a : Addr} (h : Dat K H v d) (ha : H a = some (.tup [.ty n, .ty m])) (e : kitB (tyD d) n = some (isD n d)) (e2 : kitB (tyD d) m = some (isD m d)) (q : Q (.bl (isD n d || isD m d)) H) : rIsiT K [v, .ref a] H Q :=
  ⟨v, a, _, _, [.type n, .type m], _, rfl, ha, .cons (.ty n) (.cons (.ty m) .nil), tyx h, kitAny_cons (kit_ty e) (fun hb => kitAny_cons (kit_ty e2) (fun hc => by rw [hb, hc]; exact kitAny_nil) (fun hc => by rw [hc]; simp)) (fun hb => by rw [hb]; rfl), q⟩
theorem isi2_t {n m : String} {a : Addr} (h : Dat K H v d) (ha : H a = some (.tup [.ty n, .ty m])) (e : kitB (tyD d) n = some (isD n d)) (e2 : kitB (tyD d) m = some (isD m d)) (hb : (isD n d || isD m d) = true) (q : Q (.bl true) H) : rIsiT K [v, .ref a] H Q := isi2 h ha e e2 (by rw [hb]; exact q)
end
end Sb
set_option Elab.async false
set_option linter.all false
set_option maxRecDepth 100000
set_option maxHeartbeats 2000000
/-! Sb3: how a reading is gone through, a rule at a time; a world ahead and a world behind. -/
namespace Sb
open PySem PySem.Spec PyProof.Rows L2

theorem ite_b {b : Bool} {A B : Prop} (h1 : b = true → A) (h2 : b = false → B) : if b = true then A else B := by
  cases b with
  | true => exact h1 rfl
  | false => exact h2 rfl
section
variable {K : PySem.W.Frag} {σ : L2.St} {H : Hp} {Q : VK} {i : Nat} {v : V} {r r' : R2} {ta tb tc te : TE} {tr : TA} {t u : TT} {QB : Bool → Hp → Prop} {QA : List V → Hp → Prop} {QO : Option Int → Hp → Prop} {D : Ends} {s1 s2 s3 : TS} {g : TG}
theorem x_var (h : σ[i]? = some (some v)) (q : Q v H) : tVar i σ H Q := ⟨v, h, q⟩
theorem x_c (q : Q v H) : tC v σ H Q := q
theorem x_op (q : ta σ H fun x H1 => tb σ H1 fun y H2 => r x y H2 Q) : tOp r ta tb σ H Q := q
theorem x_un {f : V → Hp → VK → Prop} (q : ta σ H fun x H1 => f x H1 Q) : tUn f ta σ H Q := q
theorem x_test (q : te σ H fun x H1 => ∃ k, x = .bl k ∧ QB k H1) : tTest te σ H QB := q
theorem x_tb (q : te σ H fun x H1 => ∃ k, x = .bl k ∧ QB k H1) : tB te σ H QB := q
theorem x_and (q : t σ H fun c H1 => if c = true then u σ H1 QB else QB false H1) : tAnd t u σ H QB := q
theorem x_or (q : t σ H fun c H1 => if c = true then QB true H1 else u σ H1 QB) : tOr t u σ H QB := q
theorem x_not (q : t σ H fun c H1 => QB (!c) H1) : tNot t σ H QB := q
theorem x_andV (q : ta σ H fun x H1 => ∃ c, x = .bl c ∧ if c = true then tb σ H1 Q else Q (.bl false) H1) : tAndV ta tb σ H Q := q
theorem x_orV (q : ta σ H fun x H1 => ∃ c, x = .bl c ∧ if c = true then Q (.bl true) H1 else tb σ H1 Q) : tOrV ta tb σ H Q := q
theorem x_notV (q : ta σ H fun x H1 => ∃ c, x = .bl c ∧ Q (.bl (!c)) H1) : tNotV ta σ H Q := q
theorem x_if (q : t σ H fun c H1 => if c = true then ta σ H1 Q else tb σ H1 Q) : tIf t ta tb σ H Q := q
theorem x_nil (q : QA [] H) : tNil σ H QA := q
theorem x_cons (q : te σ H fun x H1 => tr σ H1 fun xs H2 => QA (x :: xs) H2) : tCons te tr σ H QA := q
theorem x_cb {f : List V → Hp → VK → Prop} (q : tr σ H fun vs H1 => f vs H1 Q) : tCB f tr σ H Q := q
theorem x_call {sp : Sp} {E : XK} (q : tr σ H fun vs H1 => sp (vs ++ []) H1 Q E) : tCall sp [] E tr σ H Q := q
theorem x_callS {sp : Sp} {E : L2.St → XK} (q : tr σ H fun vs H1 => sp vs H1 Q (E σ)) : tCallS sp E tr σ H Q := q
theorem x_callKS {sp : Sp} {gg : {α : Type} → List α → List α} {E : L2.St → XK} (q : tr σ H fun vs H1 => sp (gg vs) H1 Q (E σ)) : tCallKS sp gg E tr σ H Q := q
theorem x_chain (q : ta σ H fun x H1 => tb σ H1 fun y H2 => r x y H2 fun z H3 => ∃ k, z = .bl k ∧ (if k = true then tc σ H3 fun z H4 => r' y z H4 Q else Q (.bl false) H3)) : tChain r r' ta tb tc σ H Q := q
theorem x_sl {f : V → Option Int → Option Int → Hp → VK → Prop} {tl th : TO} (q : te σ H fun x H1 => tl σ H1 fun l H2 => th σ H2 fun u H3 => f x l u H3 Q) : tSl f te tl th σ H Q := q
theorem x_part (q : te σ H fun x H1 => ∃ i, x = .int i ∧ QO (some i) H1) : tPart te σ H QO := q
theorem x_nopart (q : QO none H) : tNoPart σ H QO := q
theorem x_bm {T : String} {f : V → List V → Hp → VK → Prop} (q : te σ H fun x H1 => tyV K T x H1 ∧ tr σ H1 fun xs H2 => f x xs H2 Q) : tBM K T f te tr σ H Q := q
theorem x_seq (q : s1 { D with nx := s2 D } σ H) : tSeq s1 s2 D σ H := q
theorem x_asg (q : te σ H fun x H1 => g x σ H1 D.nx) : tAsg te g D σ H := q
theorem x_gn {QG : L2.St → Hp → Prop} (q : QG (σ.set i (some v)) H) : gName i v σ H QG := q
theorem x_gsub {ts : TSet} {QG : L2.St → Hp → Prop} (q : ta σ H fun o H1 => tb σ H1 fun i H2 => ts o i v H2 fun H3 => QG σ H3) : gSub ta tb ts v σ H QG := q
theorem x_par {j : Nat} (q : tr σ H fun vs H1 => ∃ v w, vs = [v, w] ∧ D.nx ((σ.set i (some v)).set j (some w)) H1) : tPar i j tr D σ H := q
theorem x_par3 {j l : Nat} (q : tr σ H fun vs H1 => ∃ u v w, vs = [u, v, w] ∧ D.nx (((σ.set i (some u)).set j (some v)).set l (some w)) H1) : tPar3 i j l tr D σ H := q
theorem x_ret (q : te σ H D.rt) : tRet te D σ H := q
theorem x_drop (q : te σ H fun _ H1 => D.nx σ H1) : tDrop te D σ H := q
theorem x_ifS (q : t σ H fun b H1 => if b = true then s1 D σ H1 else s2 D σ H1) : tIfS t s1 s2 D σ H := q
theorem x_next (q : D.nx σ H) : tNext D σ H := q
theorem x_brk (q : D.bk σ H) : tBreak D σ H := q
theorem x_cont (q : D.ct σ H) : tCont D σ H := q
theorem x_I0 {f : Int → Int → V} {a b : Int} (q : Q (f a b) H) : rI0 f (.int a) (.int b) H Q := ⟨a, b, rfl, rfl, q⟩
theorem x_I {C : Int → Int → Prop} {f : Int → Int → V} {a b : Int} (c : C a b) (q : Q (f a b) H) : rI C f (.int a) (.int b) H Q := ⟨a, b, rfl, rfl, c, q⟩
theorem x_U {f : Int → V} {a : Int} (q : Q (f a) H) : rU f (.int a) H Q := ⟨a, rfl, q⟩
theorem x_eqI {a b : Int} (q : Q (.bl (decide (a = b))) H) : rEq (.int a) (.int b) H Q := ⟨rfl, by
  have e : decide (V.int a = V.int b) = decide (a = b) := decide_eq_decide.mpr ⟨fun h => V.int.inj h, fun h => by rw [h]⟩
  rw [e]
  exact q⟩
theorem x_neI {a b : Int} (q : Q (.bl (!decide (a = b))) H) : rNe (.int a) (.int b) H Q := ⟨rfl, by
  have e : decide (V.int a = V.int b) = decide (a = b) := decide_eq_decide.mpr ⟨fun h => V.int.inj h, fun h => by rw [h]⟩
  rw [e]
  exact q⟩
theorem x_eqS {a b : Str} (q : Q (.bl (decide (a = b))) H) : rEq (.str a) (.str b) H Q := ⟨rfl, by
  have e : decide (V.str a = V.str b) = decide (a = b) := decide_eq_decide.mpr ⟨fun h => V.str.inj h, fun h => by rw [h]⟩
  rw [e]
  exact q⟩
theorem x_eqB {a b : Bool} (q : Q (.bl (decide (a = b))) H) : rEq (.bl a) (.bl b) H Q := ⟨rfl, by
  have e : decide (V.bl a = V.bl b) = decide (a = b) := decide_eq_decide.mpr ⟨fun h => V.bl.inj h, fun h => by rw [h]⟩
  rw [e]
  exact q⟩
theorem x_neB {a b : Bool} (q : Q (.bl (!decide (a = b))) H) : rNe (.bl a) (.bl b) H Q := ⟨rfl, by
  have e : decide (V.bl a = V.bl b) = decide (a = b) := decide_eq_decide.mpr ⟨fun h => V.bl.inj h, fun h => by rw [h]⟩
  rw [e]
  exact q⟩
end
/-! ### is, == of data -/
def rIsNo : R2 := fun x y H Q => y = .non ∧ Q (.bl (decide (x = .non))) H
def rNotNo : R2 := fun x y H Q => y = .non ∧ Q (.bl (!decide (x = .non))) H
theorem op_isNo {X : Cx} : OpR X (compareOp .Is) rIsNo := op_isN
theorem op_notNo {X : Cx} : OpR X (compareOp .IsNot) rNotNo := op_notN
section
variable {K : PySem.W.Frag} {H : Hp} {Q : VK} {x : V} {a b : Addr}
theorem isNo_no (h : x ≠ .non) (q : Q (.bl false) H) : rIsNo x .non H Q := ⟨rfl, by rw [decide_eq_false h]; exact q⟩
theorem isNo_yes (q : Q (.bl true) H) : rIsNo .non .non H Q := ⟨rfl, q⟩
theorem notNo_no (q : Q (.bl false) H) : rNotNo .non .non H Q := ⟨rfl, q⟩
theorem notNo_yes (h : x ≠ .non) (q : Q (.bl true) H) : rNotNo x .non H Q := ⟨rfl, by rw [decide_eq_false h]; exact q⟩
theorem isB {c d : Bool} (q : Q (.bl (decide (c = d))) H) : rIsB (.bl c) (.bl d) H Q := ⟨c, d, rfl, rfl, q⟩
theorem eqNil (h : H a = some (.lst [])) (h2 : H b = some (.lst [])) (q : Q (.bl true) H) : rEqD K (.ref a) (.ref b) H Q :=
  ⟨.list [], .list [], .lst (SqL.of h) .nil, .lst (SqL.of h2) .nil, by decide +kernel, by decide +kernel, q⟩
def rLenU (K : PySem.W.Frag) : List V → Hp → VK → Prop := fun xs H Q => (∃ x n, xs = [x] ∧ LenV K x H n ∧ Q (.int n) H) ∨ ∃ a kvs, xs = [V.ref a] ∧ H a = some (.dK kvs) ∧ Q (.int kvs.length) H
theorem cr_lenU {X : Cx} : CallR X (.builtin "len") (rLenU X.K) := call_len.or call_lenD
theorem lenU_l {xs : List V} (h : H a = some (.lst xs)) (q : Q (.int (xs.length : Nat)) H) : rLenU K [.ref a] H Q := .inl ⟨_, _, rfl, .inl ⟨xs, .inl (.inl h), rfl⟩, q⟩
theorem lenU_t {xs : List V} (h : H a = some (.tup xs)) (q : Q (.int (xs.length : Nat)) H) : rLenU K [.ref a] H Q := .inl ⟨_, _, rfl, .inr ⟨xs, .inl (.inl h), rfl⟩, q⟩
theorem lenU_s {xs : List V} (h : SqL K H a xs ∨ SqT K H a xs) (q : Q (.int (xs.length : Nat)) H) : rLenU K [.ref a] H Q := .inl ⟨_, _, rfl, by
  rcases h with h | h
  · exact .inl ⟨xs, h, rfl⟩
  · exact .inr ⟨xs, h, rfl⟩, q⟩
theorem lenU_d {kvs : List (Key × V)} (h : H a = some (.dK kvs)) (q : Q (.int (kvs.length : Nat)) H) : rLenU K [.ref a] H Q := .inr ⟨a, kvs, rfl, h, q⟩
end
theorem iteNF {A B : Prop} (h : A) : if (!false) = true then A else B := h
theorem iteNT {A B : Prop} (h : B) : if (!true) = true then A else B := by
  rw [if_neg (by decide)]
  exact h
theorem neB_same {H : Hp} {Q : VK} {b : Bool} (q : Q (.bl false) H) : rNe (.bl b) (.bl b) H Q := ⟨rfl, by rw [decide_eq_true rfl]; exact q⟩
theorem neI_same {H : Hp} {Q : VK} {a b : Int} (e : a = b) (q : Q (.bl false) H) : rNe (.int a) (.int b) H Q := ⟨rfl, by rw [decide_eq_true (by rw [e])]; exact q⟩
theorem given_false (n : Nat) (v : Nat → V) : Evl.given n (fun _ => false) v = [] := by
  unfold Evl.given
  rw [List.filter_eq_nil_iff.mpr (by simp)]
  rfl
/-- the steps that ask nothing -/
local macro_rules | `(tactic| walk_at "st") => `(tactic| repeat (first
  | ((with_reducible refine x_var ?hvar ?_); (case hvar => rfl)) | with_reducible refine x_c ?_ | with_reducible refine x_op ?_ | with_reducible refine x_un ?_ | with_reducible refine x_test ?_ | with_reducible refine x_tb ?_
  | with_reducible refine x_and ?_ | with_reducible refine x_or ?_ | with_reducible refine x_not ?_ | with_reducible refine x_andV ?_ | with_reducible refine x_orV ?_ | with_reducible refine x_notV ?_ | with_reducible refine x_if ?_
  | with_reducible refine x_nil ?_ | with_reducible refine x_cons ?_ | with_reducible refine x_cb ?_ | with_reducible refine x_call ?_ | with_reducible refine x_callS ?_ | with_reducible refine x_chain ?_ | with_reducible refine x_sl ?_
  | with_reducible refine x_part ?_ | with_reducible refine x_nopart ?_ | with_reducible refine x_seq ?_ | with_reducible refine x_asg ?_ | with_reducible refine x_gn ?_ | with_reducible refine x_gsub ?_ | with_reducible refine x_par ?_
  | with_reducible refine x_ret ?_ | with_reducible refine x_drop ?_ | with_reducible refine x_ifS ?_ | with_reducible refine x_next ?_ | with_reducible refine x_I0 ?_ | with_reducible refine x_U ?_ | with_reducible refine x_eqI ?_ | with_reducible refine x_neI ?_
  | with_reducible refine x_eqS ?_ | with_reducible refine x_bm ?_ | with_reducible refine ⟨_, rfl, ?_⟩ | with_reducible refine ⟨_, _, rfl, ?_⟩))

/-! ### new things -/
def KK (w : Wo) (o : HO) (Q : VK) : Prop := ∀ p (u : Wo), Le w u → u.c = w.c → w.h p = none → u.k p = some o → Q (.ref p) u.h
def OO (w : Wo) (o : HO) (Q : VK) : Prop := ∀ p (u : Wo), Le w u → u.c = w.c → w.h p = none → u.h p = some o → u.k p = none → u.k = w.k → Q (.ref p) u.h
section
variable {K : PySem.W.Frag} {w : Wo} {Q : VK} {o : HO} {a b : Addr} {xs ys : List V}
theorem SqS.mono {H H' : Hp} (e : Same H H') (h : SqS K H a xs) : SqS K H' a xs := by
  rcases h with h | h
  · exact .inl (e.seq h)
  · refine .inr ?_
    rcases h with (h | ⟨o, h⟩) | h
    · exact .inl (.inl (e _ _ h))
    · exact .inl (.inr ⟨o, e _ _ h⟩)
    · exact .inr h
theorem SqS.l {H : Hp} (h : H a = some (.lst xs)) : SqS K H a xs := .inl (.inl (.inl h))
theorem SqS.t {H : Hp} (h : H a = some (.tup xs)) : SqS K H a xs := .inr (.inl (.inl h))
def rListOf (K : PySem.W.Frag) : List V → Hp → VK → Prop := fun xs H Q => ∃ p ys, xs = [.ref p] ∧ (SqL K H p ys ∨ SqT K H p ys) ∧ ∀ l, H l = none → Q (.ref l) (upd H l (.lst ys))
theorem cr_listOf {X : Cx} : CallR X (.type "list") (rListOf X.K) := call_list_of
theorem listOf_k (h : SqS K w.h a xs) (q : KK w (.lst xs) Q) : rListOf K [.ref a] w.h Q := ⟨a, xs, rfl, h, al_k q⟩
theorem listOf_o (h : SqS K w.h a xs) (q : OO w (.lst xs) Q) : rListOf K [.ref a] w.h Q := ⟨a, xs, rfl, h, al_o q⟩
def rTupleOf (K : PySem.W.Frag) : List V → Hp → VK → Prop := fun xs H Q => ∃ p ys, xs = [.ref p] ∧ ((SqL K H p ys ∧ ∀ l, H l = none → Q (.ref l) (upd H l (.tup ys))) ∨ (SqT K H p ys ∧ Q (.ref p) H))
theorem cr_tupleOf {X : Cx} : CallR X (.type "tuple") (rTupleOf X.K) := call_tuple_of
theorem tupleOf_l (h : SqL K w.h a xs) (q : KK w (.tup xs) Q) : rTupleOf K [.ref a] w.h Q := ⟨a, xs, rfl, .inl ⟨h, al_k q⟩⟩
theorem tupleOf_t (h : SqT K w.h a xs) (q : Q (.ref a) w.h) : rTupleOf K [.ref a] w.h Q := ⟨a, xs, rfl, .inr ⟨h, q⟩⟩
theorem sz {n : Nat} (h : n ≤ 1000000) : n ≤ sizeLine := Nat.le_trans h (by decide)
theorem szlt {n : Nat} (h : n < 1000000) : n < sizeLine := Nat.lt_of_lt_of_le h (by decide)
theorem cat_k (h : w.h a = some (.lst xs)) (h2 : w.h b = some (.lst ys)) (hz : xs.length + ys.length ≤ 1000000) (q : KK w (.lst (xs ++ ys)) Q) : rCat (.ref a) (.ref b) w.h Q := ⟨a, b, xs, ys, rfl, rfl, h, h2, sz hz, al_k q⟩
theorem cat_o (h : w.h a = some (.lst xs)) (h2 : w.h b = some (.lst ys)) (hz : xs.length + ys.length ≤ 1000000) (q : OO w (.lst (xs ++ ys)) Q) : rCat (.ref a) (.ref b) w.h Q := ⟨a, b, xs, ys, rfl, rfl, h, h2, sz hz, al_o q⟩
theorem rep_len (v : V) (n : Nat) : ((List.replicate n [v]).flatten) = List.replicate n v := by
  induction n with
  | zero => rfl
  | succ n ih => rw [List.replicate_succ, List.flatten_cons, ih, List.replicate_succ]; rfl
theorem rep1_k {x : V} {n : Int} (h : w.h a = some (.lst [x])) (hn : n ≤ 1000000) (h0 : 0 ≤ n) (q : KK w (.lst (List.replicate n.toNat x)) Q) : rRep (.ref a) (.int n) w.h Q :=
  ⟨a, n, [x], rfl, rfl, h, by omega, by omega, sz (by rw [List.length_singleton]; omega), by rw [rep_len]; exact al_k q⟩
theorem rep1_o {x : V} {n : Int} (h : w.h a = some (.lst [x])) (hn : n ≤ 1000000) (h0 : 0 ≤ n) (q : OO w (.lst (List.replicate n.toNat x)) Q) : rRep (.ref a) (.int n) w.h Q :=
  ⟨a, n, [x], rfl, rfl, h, by omega, by omega, sz (by rw [List.length_singleton]; omega), by rw [rep_len]; exact al_o q⟩
theorem slL_k {lo hi : Option Int} (h : SqL K w.h a xs) (q : KK w (.lst (cutV xs lo hi)) Q) : rSlL K (.ref a) lo hi w.h Q := ⟨a, xs, rfl, h, al_k q⟩
theorem slL_o {lo hi : Option Int} (h : SqL K w.h a xs) (q : OO w (.lst (cutV xs lo hi)) Q) : rSlL K (.ref a) lo hi w.h Q := ⟨a, xs, rfl, h, al_o q⟩
theorem sorted_k {ns : List Int} (h : SqL K w.h a (ns.map V.int)) (q : ∀ ns' : List Int, ns'.Perm ns → ns'.Pairwise (· ≤ ·) → KK w (.lst (ns'.map V.int)) Q) : rSortedI K [.ref a] w.h Q := ⟨a, ns, rfl, h, fun ns' p h1 h2 => al_k (q ns' h1 h2) p⟩
theorem sorted_o {ns : List Int} (h : SqL K w.h a (ns.map V.int)) (q : ∀ ns' : List Int, ns'.Perm ns → ns'.Pairwise (· ≤ ·) → OO w (.lst (ns'.map V.int)) Q) : rSortedI K [.ref a] w.h Q := ⟨a, ns, rfl, h, fun ns' p h1 h2 => al_o (q ns' h1 h2) p⟩
def rLen (K : PySem.W.Frag) : List V → Hp → VK → Prop := fun xs H Q => ∃ x n, xs = [x] ∧ LenV K x H n ∧ Q (.int n) H
theorem cr_len {X : Cx} : CallR X (.builtin "len") (rLen X.K) := call_len
theorem len_s {H : Hp} (h : SqS K H a xs) (q : Q (.int (xs.length : Nat)) H) : rLen K [.ref a] H Q := ⟨_, _, rfl, by
  rcases h with h | h
  · exact .inl ⟨xs, h, rfl⟩
  · exact .inr ⟨xs, h, rfl⟩, q⟩
theorem ix_s {H : Hp} {i : Int} {v : V} (h : SqS K H a xs) (hi : atI xs i = some v) (q : Q v H) : rIx K (.ref a) (.int i) H Q := by
  rcases h with h | h
  · exact .inl ⟨a, xs, i, v, rfl, rfl, h, hi, q⟩
  · exact .inr (.inl ⟨a, xs, i, v, rfl, rfl, h, hi, q⟩)
theorem ix_l {H : Hp} {i : Int} {v : V} (h : SqL K H a xs) (hi : atI xs i = some v) (q : Q v H) : rIxL K (.ref a) (.int i) H Q := ⟨a, xs, i, v, rfl, rfl, h, hi, q⟩
theorem at_i {n : Int} {v : V} (h0 : 0 ≤ n) (h : xs[n.toNat]? = some v) : atI xs n = some v := by
  have e : n = ((n.toNat : Nat) : Int) := by omega
  rw [e]
  exact atI_nat h
theorem ixN_i {n : Nat} {i : Int} (h0 : 0 ≤ i) (h : i < n) : ixN n i = some i.toNat := by
  unfold ixN
  rw [if_pos h0, if_pos h]
def rAbs : List V → Hp → VK → Prop := fun xs H Q => ∃ i, xs = [.int i] ∧ Q (.int (if i < 0 then -i else i)) H
theorem cr_abs {X : Cx} : CallR X (.builtin "abs") rAbs := call_abs
theorem abs_i {H : Hp} {i : Int} (q : Q (.int (if i < 0 then -i else i)) H) : rAbs [.int i] H Q := ⟨i, rfl, q⟩
def rIntC : List V → Hp → VK → Prop := fun xs H Q => (∃ i, xs = [.int i] ∧ Q (.int i) H) ∨ ∃ k, xs = [.bl k] ∧ Q (.int (if k then 1 else 0)) H
theorem cr_int {X : Cx} : CallR X (.type "int") rIntC := call_int1
theorem int_i {H : Hp} {i : Int} (q : Q (.int i) H) : rIntC [.int i] H Q := .inl ⟨i, rfl, q⟩
def rMax2 : List V → Hp → VK → Prop := fun xs H Q => ∃ i j, xs = [.int i, .int j] ∧ Q (.int (if j > i then j else i)) H
def rMin2 : List V → Hp → VK → Prop := fun xs H Q => ∃ i j, xs = [.int i, .int j] ∧ Q (.int (if j < i then j else i)) H
theorem cr_max2 {X : Cx} (hc : X.calm = true) : CallR X (.builtin "max") rMax2 := call_max2 hc
theorem cr_min2 {X : Cx} (hc : X.calm = true) : CallR X (.builtin "min") rMin2 := call_min2 hc
theorem max2_i {H : Hp} {i j : Int} (q : Q (.int (max i j)) H) : rMax2 [.int i, .int j] H Q := ⟨i, j, rfl, by
  have e : (if j > i then j else i) = max i j := by split <;> omega
  rw [e]
  exact q⟩
theorem min2_i {H : Hp} {i j : Int} (q : Q (.int (min i j)) H) : rMin2 [.int i, .int j] H Q := ⟨i, j, rfl, by
  have e : (if j < i then j else i) = min i j := by split <;> omega
  rw [e]
  exact q⟩
theorem sum_s {H : Hp} {ns : List Int} (h : SqL K H a (ns.map V.int)) (q : Q (.int ns.sum) H) : rSum K [.ref a] H Q := ⟨a, ns, rfl, h, q⟩
theorem min_s {H : Hp} {ns : List Int} (h : SqL K H a (ns.map V.int)) (h0 : 0 < ns.length) (q : ∀ m, m ∈ ns → (∀ y, y ∈ ns → m ≤ y) → Q (.int m) H) : rMin K [.ref a] H Q := ⟨a, ns, rfl, h, h0, q⟩
theorem max_s {H : Hp} {ns : List Int} (h : SqL K H a (ns.map V.int)) (h0 : 0 < ns.length) (q : ∀ m, m ∈ ns → (∀ y, y ∈ ns → y ≤ m) → Q (.int m) H) : rMax K [.ref a] H Q := ⟨a, ns, rfl, h, h0, q⟩
theorem all_s {H : Hp} {bs : List Bool} (h : SqL K H a (bs.map V.bl)) (q : Q (.bl (bs.all id)) H) : rAll K [.ref a] H Q := ⟨a, bs, rfl, h, q⟩
theorem any_s {H : Hp} {bs : List Bool} (h : SqL K H a (bs.map V.bl)) (q : Q (.bl (bs.any id)) H) : rAny K [.ref a] H Q := ⟨a, bs, rfl, h, q⟩
theorem x_fmod {H : Hp} {i j : Int} (h : j ≠ 0) (q : Q (.int (i.fmod j)) H) : rI (fun _ j => j ≠ 0) (fun i j => .int (i.fmod j)) (.int i) (.int j) H Q := ⟨i, j, rfl, rfl, h, q⟩
theorem setL {p : Addr} {j : Int} {v : V} {QH : Hp → Prop} {H : Hp} (h : H p = some (.lst xs)) (h0 : 0 ≤ j) (h1 : j < xs.length) (q : QH (upd H p (.lst (xs.set j.toNat v)))) : rSetL (.ref p) (.int j) v H QH :=
  ⟨p, xs, j, j.toNat, rfl, rfl, h, ixN_i h0 h1, q⟩
theorem append_w {p : Addr} {v : V} {H : Hp} (h : H p = some (.lst xs)) (hz : xs.length < 1000000) (q : Q .non (upd H p (.lst (xs ++ [v])))) : rAppend (.ref p) [v] H Q := ⟨p, xs, v, rfl, rfl, h, szlt hz, q⟩
theorem popAt_w {p : Addr} {i : Int} {H : Hp} (h : H p = some (.lst xs)) (h0 : 0 ≤ i) (h1 : i < xs.length) (hz : xs.length ≤ 1000000) (q : ∀ y, xs[i.toNat]? = some y → Q y (upd H p (.lst (xs.eraseIdx i.toNat)))) : rPopAt (.ref p) [.int i] H Q := by
  have hi : i.toNat < xs.length := by omega
  exact ⟨p, xs, i, i.toNat, xs[i.toNat], rfl, rfl, h, by omega, by omega, (ixN_seq (ixN_i h0 h1)).1, List.getElem?_eq_getElem hi, q _ (List.getElem?_eq_getElem hi)⟩
theorem isList {p : Addr} {H : Hp} (h : H p = some (.lst xs)) : tyV K "list" (.ref p) H := .inl ⟨rfl, _, .inl (.inl h)⟩
end
def nTup (xs : List V) (H : Hp) (Q : VK) : Prop := xs.length ≤ sizeLine ∧ ∀ p, H p = none → Q (.ref p) (upd H p (.tup xs))
def nLst (xs : List V) (H : Hp) (Q : VK) : Prop := xs.length ≤ sizeLine ∧ ∀ p, H p = none → Q (.ref p) (upd H p (.lst xs))
def nRg (a b : Int) (H : Hp) (Q : VK) : Prop := RgOk a b ∧ ∀ p, H p = none → Q (.ref p) (upd H p (.lst (rgV a b)))
section
variable {K : PySem.W.Frag} {σ : L2.St} {w : Wo} {H : Hp} {Q : VK} {tr : TA} {ta tb tl : TE} {xs : List V} {QI : Int → Int → Hp → Prop}
theorem x_tup (q : tr σ H fun xs H1 => nTup xs H1 Q) : tTup tr σ H Q := q
theorem x_lst (q : tr σ H fun xs H1 => nLst xs H1 Q) : tLst tr σ H Q := q
theorem x_lstRg {te : L2.St → Hp → (Int → Int → Hp → Prop) → Prop} (q : te σ H fun a b H1 => nRg a b H1 Q) : tLstRg te σ H Q := q
theorem x_rg1 (q : ta σ H fun x H1 => ∃ n, x = .int n ∧ QI 0 n H1) : tRg1 ta σ H QI := q
theorem x_rg2 (q : ta σ H fun x H1 => tb σ H1 fun y H2 => ∃ i j, x = .int i ∧ y = .int j ∧ QI i j H2) : tRg2 ta tb σ H QI := q
theorem tup_k (hl : xs.length ≤ 1000000) (q : KK w (.tup xs) Q) : nTup xs w.h Q := ⟨sz hl, al_k q⟩
theorem lst_k (hl : xs.length ≤ 1000000) (q : KK w (.lst xs) Q) : nLst xs w.h Q := ⟨sz hl, al_k q⟩
theorem lst_o (hl : xs.length ≤ 1000000) (q : OO w (.lst xs) Q) : nLst xs w.h Q := ⟨sz hl, al_o q⟩
theorem rg_k {a b : Int} (h0 : 0 ≤ a) (h1 : a ≤ 1000000) (h2 : 0 ≤ b) (h3 : b ≤ 1000000) (q : KK w (.lst (rgV a b)) Q) : nRg a b w.h Q := ⟨RgOk.of_le h0 (by omega) (by omega) h2, al_k q⟩
theorem rg_o {a b : Int} (h0 : 0 ≤ a) (h1 : a ≤ 1000000) (h2 : 0 ≤ b) (h3 : b ≤ 1000000) (q : OO w (.lst (rgV a b)) Q) : nRg a b w.h Q := ⟨RgOk.of_le h0 (by omega) (by omega) h2, al_o q⟩
theorem dnew_o (q : OO w (.dK []) Q) : tDNewK σ w.h Q := al_o q
theorem dnew_k (q : KK w (.dK []) Q) : tDNewK σ w.h Q := al_k q

end

/-! ### loops -/
/-- a loop of n turns; it: the item of a turn; src: what its source wants of a world -/
def ForP (g : TG) (tb : TS) (D : Ends) (σ : L2.St) (w : Wo) (n : Nat) (it : Nat → V → Prop) (src : Wo → Prop) : Prop := ∃ I : Nat → L2.St → Wo → Prop, I 0 σ w ∧ (∀ i σ v, i ≤ n → I i σ v → src v) ∧
  (∀ i x σ v, i < n → it i x → I i σ v → g x σ v.h fun σ2 H2 => tb { D with nx := At (I (i + 1)), ct := At (I (i + 1)), bk := D.nx } σ2 H2) ∧ (∀ σ v, I n σ v → D.nx σ v.h)
def LoopOf (J : It) (g : TG) (tb : TS) (D : Ends) (σ : L2.St) (H : Hp) : Prop := ∃ W : Nat → Nat → L2.St → Hp → Prop, (∃ m, W 0 m σ H) ∧ ∀ i m σ H, W i m σ H →
  (J.stop i H ∧ D.nx σ H) ∨ (J.go i H ∧ ∃ N : L2.St → Hp → Prop, (∀ σ' H', N σ' H' → ∃ m', m' < m ∧ W (i + 1) m' σ' H') ∧ ∀ x H', J.yld i H x H' → g x σ H' fun σ2 H2 => tb { D with nx := N, ct := N, bk := D.nx } σ2 H2)
def nForL (K : PySem.W.Frag) (g : TG) (tb : TS) (D : Ends) (σ : L2.St) (x : V) (H : Hp) : Prop := ∃ a, x = .ref a ∧ (∃ xs, SqL K H a xs) ∧ LoopOf (Itl K a) g tb D σ H
def nForS (K : PySem.W.Frag) (g : TG) (tb : TS) (D : Ends) (σ : L2.St) (x : V) (H : Hp) : Prop := ∃ a, x = .ref a ∧ (((∃ xs, SqL K H a xs) ∧ LoopOf (Itl K a) g tb D σ H) ∨ ((∃ xs, SqT K H a xs) ∧ LoopOf (Itt K a) g tb D σ H))
def nForT (K : PySem.W.Frag) (g : TG) (tb : TS) (D : Ends) (σ : L2.St) (x : V) (H : Hp) : Prop := ∃ a, x = .ref a ∧ (∃ xs, SqT K H a xs) ∧ LoopOf (Itt K a) g tb D σ H
def nForR1 (g : TG) (tb : TS) (D : Ends) (σ : L2.St) (vs : List V) (H : Hp) : Prop := ∃ j : Int, vs = [.int j] ∧ -(2 ^ 62) ≤ j ∧ j < 2 ^ 62 ∧ LoopOf (Itr 0 j.toNat) g tb D σ H
def nForR2 (g : TG) (tb : TS) (D : Ends) (σ : L2.St) (vs : List V) (H : Hp) : Prop := ∃ i j : Int, vs = [.int i, .int j] ∧ (-(2 ^ 62) ≤ i ∧ i < 2 ^ 62 ∧ -(2 ^ 62) ≤ j ∧ j < 2 ^ 62) ∧ LoopOf (Itr i (j - i).toNat) g tb D σ H
section
variable {K : PySem.W.Frag} {σ : L2.St} {w : Wo} {H : Hp} {Q : VK} {ta : TA} {tl : TE} {xs : List V} {a : Addr} {g : TG} {tb : TS} {D : Ends}
theorem x_forL (q : tl σ H fun x H1 => nForL K g tb D σ x H1) : tFor (iList K tl) g tb D σ H := q
theorem x_forS (q : tl σ H fun x H1 => nForS K g tb D σ x H1) : tFor (iSeq K tl) g tb D σ H := q
theorem x_forT (q : tl σ H fun x H1 => nForT K g tb D σ x H1) : tFor (iTup K tl) g tb D σ H := q
theorem x_forR1 (q : ta σ H fun x H1 => nForR1 g tb D σ x H1) : tFor (iRng1 ta) g tb D σ H := q
theorem x_forR2 (q : ta σ H fun x H1 => nForR2 g tb D σ x H1) : tFor (iRng2 ta) g tb D σ H := q
theorem loopL (h : ForP g tb D σ w xs.length (fun i x => xs[i]? = some x) (fun v => SqL K v.h a xs)) : LoopOf (Itl K a) g tb D σ w.h := by
  obtain ⟨I, h0, hs, ht, hd⟩ := h
  exact for_w walk_list I h0 hs (fun i x σ v H' hi q y => by
    obtain ⟨rfl, e⟩ := y
    exact ht i x σ v hi e q) hd
theorem loopT (h : ForP g tb D σ w xs.length (fun i x => xs[i]? = some x) (fun v => SqT K v.h a xs)) : LoopOf (Itt K a) g tb D σ w.h := by
  obtain ⟨I, h0, hs, ht, hd⟩ := h
  exact for_w walk_tup I h0 hs (fun i x σ v H' hi q y => by
    obtain ⟨rfl, e⟩ := y
    exact ht i x σ v hi e q) hd
theorem loopR {lo : Int} {n : Nat} (h : ForP g tb D σ w n (fun i x => x = .int (lo + (i : Int))) (fun _ => True)) : LoopOf (Itr lo n) g tb D σ w.h := by
  obtain ⟨I, h0, hs, ht, hd⟩ := h
  exact for_w walk_range I h0 (fun _ _ _ _ _ => trivial) (fun i x σ v H' hi q y => by
    obtain ⟨rfl, e⟩ := y
    exact ht i x σ v hi e q) hd
theorem for_lst (hs : SqL K w.h a xs) (h : ForP g tb D σ w xs.length (fun i x => xs[i]? = some x) (fun v => SqL K v.h a xs)) : nForL K g tb D σ (.ref a) w.h := ⟨a, rfl, ⟨xs, hs⟩, loopL h⟩
theorem for_tpl (hs : SqT K w.h a xs) (h : ForP g tb D σ w xs.length (fun i x => xs[i]? = some x) (fun v => SqT K v.h a xs)) : nForT K g tb D σ (.ref a) w.h := ⟨a, rfl, ⟨xs, hs⟩, loopT h⟩
theorem ForP.src {n : Nat} {it : Nat → V → Prop} {s1 s2 : Wo → Prop} (h : ForP g tb D σ w n it s1) (e : ∀ v, s1 v → s2 v) : ForP g tb D σ w n it s2 := by
  obtain ⟨I, h0, hs, ht, hd⟩ := h
  exact ⟨I, h0, fun i σ v hi p => e v (hs i σ v hi p), ht, hd⟩
/-- over a list or a tuple that stands for good in an elder world -/
theorem for_seq {w1 : Wo} (hs : SqS K w1.k a xs) (e : Lk w1 w) (h : ForP g tb D σ w xs.length (fun i x => xs[i]? = some x) (fun v => Lk w1 v)) : nForS K g tb D σ (.ref a) w.h := by
  refine ⟨a, rfl, ?_⟩
  rcases hs with hs | hs
  · have up : ∀ v : Wo, Lk w1 v → SqL K v.h a xs := fun v l => (l.k.trans v.ext).seq hs
    exact .inl ⟨⟨xs, up w e⟩, loopL (h.src up)⟩
  · have up : ∀ v : Wo, Lk w1 v → SqT K v.h a xs := fun v l => by
      have z := SqS.mono (K := K) (l.k.trans v.ext) (.inr hs)
      rcases hs with (q | ⟨o, q⟩) | q
      · exact .inl (.inl ((l.k.trans v.ext) _ _ q))
      · exact .inl (.inr ⟨o, (l.k.trans v.ext) _ _ q⟩)
      · exact .inr q
    exact .inr ⟨⟨xs, up w e⟩, loopT (h.src up)⟩
theorem for_r1 {n : Int} (hn : n ≤ 1000000) (h0 : 0 ≤ n) (h : ForP g tb D σ w n.toNat (fun i x => x = .int (0 + (i : Int))) (fun _ => True)) : nForR1 g tb D σ [.int n] w.h := ⟨n, rfl, by omega, by omega, loopR h⟩
theorem for_r2 {lo n : Int} (hb : -1000000 ≤ lo ∧ lo ≤ 1000000 ∧ -1000000 ≤ n ∧ n ≤ 1000000) (h : ForP g tb D σ w (n - lo).toNat (fun i x => x = .int (lo + (i : Int))) (fun _ => True)) : nForR2 g tb D σ [.int lo, .int n] w.h := ⟨lo, n, rfl, ⟨by omega, by omega, by omega, by omega⟩, loopR h⟩
end

/-! ### comprehensions -/
/-- n turns; it: the item of a turn -/
def LcP (g : TG) (tt : TT) (te : TE) (vs : List Nat) (σ : L2.St) (w : Wo) (n : Nat) (it : Nat → V → Prop) (Q : VK) : Prop := ∃ (m : Nat) (I : Nat → List V → Hp → Prop), I 0 [] w.k ∧ n ≤ 1000000 ∧
  (∀ i x acc (v : Wo), i < n → it i x → Le w v → v.c ≤ w.c + i * m → I i acc v.k → ∀ (Qy : VK) (Qn : Hp → Prop),
    (∀ y (u : Wo), Le v u → u.c ≤ v.c + m → I (i + 1) (acc ++ [y]) u.k → Qy y u.h) → (∀ u : Wo, Le v u → u.c ≤ v.c + m → I (i + 1) acc u.k → Qn u.h) →
    g x (wipe σ vs) v.h fun σ2 H2 => wipe σ2 vs = wipe σ vs ∧ tt σ2 H2 fun b H3 => if b = true then te σ2 H3 Qy else Qn H3) ∧
  (∀ p xs (v : Wo), Le w v → v.c ≤ w.c + n * m → w.h p = none → v.h p = some (.lst xs) → v.k p = none → I n xs v.k → Q (.ref p) v.h)
def LcOf (J : It) (g : TG) (tt : TT) (te : TE) (vs : List Nat) (σ : L2.St) (H1 : Hp) (Q : VK) : Prop := ∀ D, H1 D = none → ∃ W : Nat → Nat → Hp → Prop, (∃ m, W 0 m (upd H1 D (.lst []))) ∧ ∀ i m H, W i m H →
  (J.stop i H ∧ Q (.ref D) H) ∨ (J.go i H ∧ ∃ Nx : Hp → Prop, (∀ H', Nx H' → ∃ m', m' < m ∧ W (i + 1) m' H') ∧ ∀ x H', J.yld i H x H' → g x (wipe σ vs) H' fun σ2 H2 => wipe σ2 vs = wipe σ vs ∧ tt σ2 H2 fun b H3 =>
    if b = true then te σ2 H3 fun y H4 => ∃ acc, H4 D = some (.lst acc) ∧ acc.length < sizeLine ∧ Nx (upd H4 D (.lst (acc ++ [y]))) else Nx H3)
def nLcL (K : PySem.W.Frag) (g : TG) (tt : TT) (te : TE) (vs : List Nat) (σ : L2.St) (x : V) (H : Hp) (Q : VK) : Prop := ∃ a, x = .ref a ∧ (∃ xs, SqL K H a xs) ∧ LcOf (Itl K a) g tt te vs σ H Q
def nLcS (K : PySem.W.Frag) (g : TG) (tt : TT) (te : TE) (vs : List Nat) (σ : L2.St) (x : V) (H : Hp) (Q : VK) : Prop := ∃ a, x = .ref a ∧ (((∃ xs, SqL K H a xs) ∧ LcOf (Itl K a) g tt te vs σ H Q) ∨ ((∃ xs, SqT K H a xs) ∧ LcOf (Itt K a) g tt te vs σ H Q))
def nLcR1 (g : TG) (tt : TT) (te : TE) (vs : List Nat) (σ : L2.St) (xs : List V) (H : Hp) (Q : VK) : Prop := ∃ j : Int, xs = [.int j] ∧ -(2 ^ 62) ≤ j ∧ j < 2 ^ 62 ∧ LcOf (Itr 0 j.toNat) g tt te vs σ H Q
def nLcR2 (g : TG) (tt : TT) (te : TE) (vs : List Nat) (σ : L2.St) (xs : List V) (H : Hp) (Q : VK) : Prop := ∃ i j : Int, xs = [.int i, .int j] ∧ (-(2 ^ 62) ≤ i ∧ i < 2 ^ 62 ∧ -(2 ^ 62) ≤ j ∧ j < 2 ^ 62) ∧ LcOf (Itr i (j - i).toNat) g tt te vs σ H Q
section
variable {K : PySem.W.Frag} {σ : L2.St} {w : Wo} {H : Hp} {Q : VK} {ta : TA} {tl te : TE} {tt : TT} {xs : List V} {vs : List Nat} {a : Addr} {g : TG}
theorem x_lcL (q : tl σ H fun x H1 => nLcL K g tt te vs σ x H1 Q) : tLc (iList K tl) g tt te vs σ H Q := q
theorem x_lcS (q : tl σ H fun x H1 => nLcS K g tt te vs σ x H1 Q) : tLc (iSeq K tl) g tt te vs σ H Q := q
theorem x_lcR1 (q : ta σ H fun x H1 => nLcR1 g tt te vs σ x H1 Q) : tLc (iRng1 ta) g tt te vs σ H Q := q
theorem x_lcR2 (q : ta σ H fun x H1 => nLcR2 g tt te vs σ x H1 Q) : tLc (iRng2 ta) g tt te vs σ H Q := q
theorem lcOfL (hs : ∀ v, Le w v → SqL K v.h a xs) (h : LcP g tt te vs σ w xs.length (fun i x => xs[i]? = some x) Q) : LcOf (Itl K a) g tt te vs σ w.h Q := by
  obtain ⟨m, I, h0, hn, ht, hd⟩ := h
  exact lc_w walk_list m I h0 hn hs (fun i x acc v H' hi l hc hI y => by
    obtain ⟨rfl, e⟩ := y
    exact ht i x acc v hi e l hc hI) hd
theorem lcOfT (hs : ∀ v, Le w v → SqT K v.h a xs) (h : LcP g tt te vs σ w xs.length (fun i x => xs[i]? = some x) Q) : LcOf (Itt K a) g tt te vs σ w.h Q := by
  obtain ⟨m, I, h0, hn, ht, hd⟩ := h
  exact lc_w walk_tup m I h0 hn hs (fun i x acc v H' hi l hc hI y => by
    obtain ⟨rfl, e⟩ := y
    exact ht i x acc v hi e l hc hI) hd
theorem lcOfR {lo : Int} {n : Nat} (h : LcP g tt te vs σ w n (fun i x => x = .int (lo + (i : Int))) Q) : LcOf (Itr lo n) g tt te vs σ w.h Q := by
  obtain ⟨m, I, h0, hn, ht, hd⟩ := h
  exact lc_w walk_range m I h0 hn (fun _ _ => trivial) (fun i x acc v H' hi l hc hI y => by
    obtain ⟨rfl, e⟩ := y
    exact ht i x acc v hi e l hc hI) hd
theorem seq_l {H H' : Hp} (e : Same H H') (h : SqL K H a xs) : SqL K H' a xs := e.seq h
theorem seq_t {H H' : Hp} (e : Same H H') (h : SqT K H a xs) : SqT K H' a xs := by
  rcases h with (q | ⟨o, q⟩) | q
  · exact .inl (.inl (e _ _ q))
  · exact .inl (.inr ⟨o, e _ _ q⟩)
  · exact .inr q
/-- over a list that stands for good -/
theorem lc_lst (hs : SqL K w.k a xs) (h : LcP g tt te vs σ w xs.length (fun i x => xs[i]? = some x) Q) : nLcL K g tt te vs σ (.ref a) w.h Q := ⟨a, rfl, ⟨xs, seq_l w.ext hs⟩, lcOfL (fun v l => seq_l (l.k.trans v.ext) hs) h⟩
/-- over an owned list -/
theorem lc_own (hs : w.h a = some (.lst xs)) (hb : w.b ≠ some a) (h : LcP g tt te vs σ w xs.length (fun i x => xs[i]? = some x) Q) : nLcL K g tt te vs σ (.ref a) w.h Q := ⟨a, rfl, ⟨xs, .inl (.inl hs)⟩, lcOfL (fun v l => .inl (.inl (l.h a _ hb hs))) h⟩
theorem lc_seq (hs : SqS K w.k a xs) (h : LcP g tt te vs σ w xs.length (fun i x => xs[i]? = some x) Q) : nLcS K g tt te vs σ (.ref a) w.h Q := by
  refine ⟨a, rfl, ?_⟩
  rcases hs with hs | hs
  · exact .inl ⟨⟨xs, seq_l w.ext hs⟩, lcOfL (fun v l => seq_l (l.k.trans v.ext) hs) h⟩
  · exact .inr ⟨⟨xs, seq_t w.ext hs⟩, lcOfT (fun v l => seq_t (l.k.trans v.ext) hs) h⟩
theorem lc_r1 {n : Int} (hn : n ≤ 1000000) (h0 : 0 ≤ n) (h : LcP g tt te vs σ w n.toNat (fun i x => x = .int (0 + (i : Int))) Q) : nLcR1 g tt te vs σ [.int n] w.h Q := ⟨n, rfl, by omega, by omega, lcOfR h⟩
theorem lc_r2 {lo n : Int} (hb : -1000000 ≤ lo ∧ lo ≤ 1000000 ∧ -1000000 ≤ n ∧ n ≤ 1000000) (h : LcP g tt te vs σ w (n - lo).toNat (fun i x => x = .int (lo + (i : Int))) Q) : nLcR2 g tt te vs σ [.int lo, .int n] w.h Q := ⟨lo, n, rfl, ⟨by omega, by omega, by omega, by omega⟩, lcOfR h⟩
/-- the turns give what is known: f, whether; v, what -/
theorem lc_map {n : Nat} {it : Nat → V → Prop} (f : Nat → Bool) (v : Nat → V) (hn : n ≤ 1000000)
    (hs : ∀ i x (u : Wo), i < n → it i x → Le w u → u.c = w.c → ∀ (Qy : VK) (Qn : Hp → Prop), (f i = true → ∀ u' : Wo, Le u u' → u'.c = u.c → Qy (v i) u'.h) → (f i = false → ∀ u' : Wo, Le u u' → u'.c = u.c → Qn u'.h) →
      g x (wipe σ vs) u.h fun σ2 H2 => wipe σ2 vs = wipe σ vs ∧ tt σ2 H2 fun b H3 => if b = true then te σ2 H3 Qy else Qn H3)
    (hd : ∀ p (u : Wo), Le w u → u.c = w.c → w.h p = none → u.h p = some (.lst (Evl.given n f v)) → u.k p = none → Q (.ref p) u.h) : LcP g tt te vs σ w n it Q := by
  refine ⟨0, fun i acc _ => acc = Evl.given i f v, rfl, hn, fun i x acc u hi hx l hc hI Qy Qn qy qn => ?_, fun p xs u l hc h0 hp hk hI => ?_⟩
  · subst hI
    refine hs i x u hi hx l (Nat.le_antisymm (by omega) l.c) Qy Qn (fun e u' l' c' => qy _ u' l' (by omega) (Evl.given_yes e).symm) (fun e u' l' c' => qn u' l' (by omega) ?_)
    exact (Evl.given_no e).symm
  · subst hI
    exact hd p u l (Nat.le_antisymm (by omega) l.c) h0 hp hk
end
theorem given_list {α : Type} (xs : List α) (p : α → Bool) (g : α → V) (f : Nat → Bool) (v : Nat → V) (hf : ∀ i x, xs[i]? = some x → f i = p x) (hv : ∀ i x, xs[i]? = some x → p x = true → v i = g x) : Evl.given xs.length f v = (xs.filter p).map g := by
  have key : ∀ n, n ≤ xs.length → Evl.given n f v = ((xs.take n).filter p).map g := by
    intro n
    induction n with
    | zero => intro _; rfl
    | succ n ih =>
      intro hn
      have hx : xs[n]? = some xs[n] := List.getElem?_eq_getElem (by omega)
      have e := hf n _ hx
      rw [List.take_add_one, hx, List.filter_append, List.map_append, ← ih (by omega)]
      cases h : p xs[n] with
      | true =>
        rw [Evl.given_yes (by rw [e, h]), hv n _ hx h]
        simp [h]
      | false =>
        rw [Evl.given_no (by rw [e, h])]
        simp [h]
  have := key xs.length (Nat.le_refl _)
  rwa [List.take_length] at this
end Sb
set_option Elab.async false
set_option linter.all false
set_option maxRecDepth 100000
set_option maxHeartbeats 4000000
/-! Sb4: set of a list of ints, least ones of tuples and of pairs. -/
namespace Sb
open PySem PySem.Spec PyProof.Rows L2
section
variable {P : Program} {w : World} {A : Around} {E : Value → Shared → Prop} {s : Shared}
/-- set(l), l a list of ints -/
theorem call_set_ofList {l : Addr} {items : Array Value} (ns : List Int) {Q : Value → Shared → Prop} (hh : A.handled = none) (hl : s.heap.IsList l items) (hit : IntsAre items.toList ns) (room : ns.length + 1 < scanBound)
    (fin : ∀ (h' : Heap) (tk c : Nat), SetR w h' s.heap.objs.size (fun j => decide (j ∈ ns)) c → c ≤ ns.length → (∀ b o, s.heap.get? b = some o → h'.get? b = some o) → Q (.ref s.heap.objs.size) { s with heap := h', toks := tk }) :
    wpAny (model P w) A (call (.type "set") [.ref l]) Q E s := by
  have isz : items.size = ns.length := by simpa using IntsAre.length hit
  obtain ⟨c, tl, mro⟩ := PySem.F.called_set.mro
  have f1 := PySem.F.called_set.made
  have f2 := PySem.F.called_set.sub
  have f3 := PySem.F.called_set.notType
  have f4 := PySem.F.called_set.canCreate
  have f5 := PySem.F.typeCall_set_1 (.ref l)
  let S0 : Obj := { cls := .type "set", dict := none, data := .set #[] 0 (.fresh 0 0 (!w.params.followText "set-order")) }
  refine wpAny_call (codeAny_of_tree ?_)
  show wpAny _ _ (callAny (.type "set") _) _ _ _
  refine wpAny_pure ⟨Code.quiet_builtin _ (by decide +kernel), codeAny_builtin PySem.F.entry_type_call ?_⟩
  rw [Around.under_plain (weight_type_call_type "set" [.ref l] []) rfl]
  repeat (any_goals (first | assumption | wp_step))
  refine codeAny_mono (code_set_led1 (.ref l) (E := E) (Q₁ := fun obj s₁ => obj = .ref s.heap.objs.size ∧ s₁ = { s with heap := s.heap.push S0 }) ⟨rfl, rfl⟩) fun r s₁ hr => ?_
  cases r with
  | error e => exact hr
  | ok fl =>
    cases fl with
    | ret obj =>
      obtain ⟨rfl, rfl⟩ := hr
      have hS : (s.heap.push S0).get? s.heap.objs.size = some S0 := Heap.get?_push_size _ rfl
      have hT : Shared.TypeIs { s with heap := s.heap.push S0 } (.ref s.heap.objs.size) "set" := ⟨_, hS, rfl⟩
      have g1 := PySem.F.called_set.init.lookup
      have g2 := PySem.F.called_set.init.bind (.ref s.heap.objs.size)
      repeat (any_goals (first | assumption | wp_step))
      refine codeAny_mono (codeAny_call_builtin (R := wants (fun r s₂ => r = .none ∧ ∃ h' tk c, s₂ = { s with heap := h', toks := tk } ∧ SetR w h' s.heap.objs.size (fun j => decide (j ∈ ns)) c ∧ c ≤ ns.length ∧
          (∀ b o, s.heap.get? b = some o → h'.get? b = some o)) E) PySem.F.called_set.init.plain PySem.F.entry_set_init (check_set_init_1 hT ?_)) fun r₂ s₂ hr₂ => ?_
      · obtain ⟨⟨ocls, odict, odata, oslots⟩, hol, hcl, nl, hdl⟩ := hl
        simp only at hcl hdl
        subst hcl hdl
        have hol2 : (s.heap.push S0).get? l = some { cls := .type "list", dict := odict, data := .seq items nl, slots := oslots } := Heap.get?_push_of_some _ hol
        have k1 := PySem.F.sub_list_set
        have k2 := PySem.F.sub_list_frozenset
        have k3 : (Value.type "list" == Value.type "dict") = false := by decide
        have hl2 : (s.heap.push S0).IsList l items := ⟨_, hol2, rfl, nl, rfl⟩
        have lt : l < s.heap.objs.size := Heap.lt_size hol
        have hz : (s.heap.push S0).objs.size = s.heap.objs.size + 1 := Heap.size_push ..
        unfold Builtin.«set.__init__» noKeywords Builtin.Frozenset.updateFrom
        generalize hPI : pyIter = PI
        wp_walk
        subst hPI
        refine wpAny_pyIter_list hl2 ?_
        refine wpAny_bind (wpAny_runValue ?_)
        have hh3 : A.in1.in1.in1.handled = none := by simp [hh]
        have n1 : l ≠ (s.heap.push S0).objs.size := by
          rw [hz]
          exact Nat.ne_of_lt (Nat.lt_succ_of_lt lt)
        have n2 : s.heap.objs.size ∉ [(s.heap.push S0).objs.size, l] := by
          rw [hz]
          intro z
          rcases List.mem_cons.mp z with z | z
          · exact Nat.ne_of_lt (Nat.lt_succ_self _) z
          · exact Nat.ne_of_gt lt (List.mem_singleton.mp z)
        have vals : ∀ (i : Nat) (v : Value), items[i]? = some v → ∃ k t, ns[i]? = some k ∧ v = .int k t := fun i v hv => by
          have hi : i < ns.length := by
            rw [← isz]
            exact (Array.getElem?_eq_some_iff.mp hv).1
          obtain ⟨t, e⟩ := PyProof.Rows.IntsAre.int_at hit i v (by rw [Array.getElem?_toList]; exact hv)
          exact ⟨ns[i], t, List.getElem?_eq_getElem hi, by rw [e, List.getD_eq_getElem?_getD, List.getElem?_eq_getElem hi]; rfl⟩
        refine set_update_ints ((Walks.list hh3 _ l n1 items).toS) s.heap.objs.size n2 ns isz room vals (items.size - 0) 0 _ (by omega) (Nat.zero_le _) ⟨⟨_, Heap.get?_push_size _ rfl, rfl, rfl⟩, (hl2.push _)⟩ ⟨0, Nat.le_refl 0, setR_new_at (Heap.get?_push_of_some _ hS)⟩ ?_
        intro s' c' hm hc' hS'
        obtain ⟨h', g', d', tk', os'⟩ := s'
        obtain rfl : g' = s.gens := hm.gens
        obtain rfl : d' = s.drawn := hm.drawn
        obtain rfl : os' = s.os := hm.os
        show wpAny _ _ _ _ _ _
        refine wpAny_pure ?_
        show wpAny _ _ (ret Value.none) _ _ _
        rw [isz] at hc'
        refine wpAny_pure ⟨rfl, h', tk', c', rfl, hS', hc', fun b o e => ?_⟩
        have b0 : b < s.heap.objs.size := Heap.lt_size e
        refine hm.heap b o (fun z => ?_) (Heap.get?_push_of_some _ (Heap.get?_push_of_some _ e))
        rcases List.mem_cons.mp z with z | z
        · exact Nat.ne_of_lt b0 z
        · have z' := List.mem_singleton.mp z
          rw [hz] at z'
          exact Nat.ne_of_lt (Nat.lt_succ_of_lt b0) z'
      · cases r₂ with
        | error e => exact hr₂
        | ok fl₂ =>
          cases fl₂ with
          | ret r =>
            obtain ⟨rfl, h', tk, c', rfl, hS', hc', hk'⟩ := hr₂
            repeat (any_goals (first | assumption | wp_step))
            exact fin _ _ _ hS' hc' hk'
          | _ => exact hr₂.elim
    | _ => exact hr.elim
end
section
variable {X : Cx}
/-- set(xs), xs a list or a tuple of ints -/
def rSetI (K : PySem.W.Frag) (w : World) : List V → Hp → VK → Prop := fun xs H Q => ∃ (a : Addr) (ns : List Int), xs = [V.ref a] ∧ SqS K H a (ns.map V.int) ∧ ns.length + 1 < scanBound ∧ ∀ p c, H p = none → c ≤ ns.length → Q (.ref p) (upd H p (SetO w p (fun j => decide (j ∈ ns)) c))
theorem cr_setI (hc : X.calm = true) : CallR X (.type "set") (rSetI X.K X.w) := by
  intro pins s σ H xs us Q I r h
  obtain ⟨a, ns, rfl, hs, hb, q⟩ := h
  rw [Vals.ref1 r]
  have fin : ∀ (h' : Heap) (tk c : Nat), SetR X.w h' s.heap.objs.size (fun j => decide (j ∈ ns)) c → c ≤ ns.length → (∀ b o, s.heap.get? b = some o → h'.get? b = some o) → EP X pins σ Q (.ref s.heap.objs.size) { s with heap := h', toks := tk } := fun h' tk c R hc k =>
    ⟨.ref _, upd H s.heap.objs.size (SetO X.w s.heap.objs.size (fun j => decide (j ∈ ns)) c), I.laid (t' := tk) k (Nat.le_refl _) (setO_new R), rfl, q _ c (I.hok.fresh (Nat.le_refl _)) hc⟩
  rcases hs with hs | hs
  · obtain ⟨its, rv, hl, _⟩ := I.list hs
    exact call_set_ofList ns (I.ok.hd hc) hl.isList rv.ints hb fin
  · obtain ⟨its, rv, hl, _⟩ := I.tuple hs
    exact call_set_tupI ns (I.ok.hd hc) (show s.heap.IsTuple a its.toArray from hl) rv.ints hb fin
theorem setI_o {K : PySem.W.Frag} {pw : World} {w : Wo} {Q : VK} {a : Addr} {ns : List Int} (hs : SqS K w.h a (ns.map V.int)) (hb : ns.length ≤ 60) (q : ∀ c, c ≤ ns.length → ∀ p (u : Wo), Le w u → u.c = w.c → u.h p = some (SetO pw p (fun j => decide (j ∈ ns)) c) → Q (.ref p) u.h) :
    rSetI K pw [.ref a] w.h Q := ⟨a, ns, rfl, hs, by unfold scanBound; omega, fun p c hp hc => q c hc p (w.newO p _ hp) (le_newO hp) rfl upd_same⟩
theorem sortedSet_k {pw : World} {w : Wo} {Q : VK} {p : Addr} {S : Int → Bool} {c : Nat} (hp : w.h p = some (SetO pw p S c)) (hc : c < 64) (q : ∀ ns : List Int, ns.Pairwise (· < ·) → (∀ k : Int, k ∈ ns ↔ S k = true) → ns.length = c → KK w (.lst (ns.map V.int)) Q) : rSortedSet pw [.ref p] w.h Q :=
  ⟨p, S, c, rfl, hp, hc, fun ns r h1 h2 h3 => al_k (q ns h1 h2 h3) r⟩
/-! ### least ones -/
def rMinS (K : PySem.W.Frag) : List V → Hp → VK → Prop := fun vs H Q => ∃ (a : Addr) (ns : List Int), vs = [V.ref a] ∧ SqS K H a (ns.map V.int) ∧ 0 < ns.length ∧ ∀ m, m ∈ ns → (∀ y, y ∈ ns → m ≤ y) → Q (.int m) H
theorem minOf_int (x : Int) : ∀ xs : List Int, PySem.W.minOf x xs ∈ x :: xs ∧ ∀ y ∈ x :: xs, PySem.W.minOf x xs ≤ y := fun xs => by
  unfold PySem.W.minOf
  induction xs generalizing x with
  | nil => exact ⟨List.mem_cons_self, fun y hy => by rw [List.mem_singleton.mp hy]; exact Int.le_refl _⟩
  | cons z r ih =>
    obtain ⟨h1, h2⟩ := ih (if PySem.W.DatumOrd.lt z x = true then z else x)
    have e : PySem.W.DatumOrd.lt z x = decide (z < x) := rfl
    rw [List.foldl_cons]
    constructor
    · rcases List.mem_cons.mp h1 with h | h
      · rw [h]
        split
        · exact List.mem_cons_of_mem _ List.mem_cons_self
        · exact List.mem_cons_self
      · exact List.mem_cons_of_mem _ (List.mem_cons_of_mem _ h)
    · have h3 := h2 _ List.mem_cons_self
      intro y hy
      rcases List.mem_cons.mp hy with h | hy
      · rw [h]
        refine Int.le_trans h3 ?_
        split
        · rename_i c
          rw [e] at c
          exact Int.le_of_lt (of_decide_eq_true c)
        · exact Int.le_refl _
      · rcases List.mem_cons.mp hy with h | hy
        · rw [h]
          refine Int.le_trans h3 ?_
          split
          · exact Int.le_refl _
          · rename_i c
            rw [e] at c
            have := of_decide_eq_false (Bool.eq_false_iff.mpr c)
            omega
        · exact h2 y (List.mem_cons_of_mem _ hy)
end
end Sb
set_option Elab.async false
set_option linter.all false
set_option maxRecDepth 100000
set_option maxHeartbeats 4000000
/-! Sb5: least ones of tuples and of pairs. -/
namespace Sb
open PySem PySem.Spec PyProof.Rows L2
theorem hold_ints {h : Heap} : ∀ {vs : List Value} {ns : List Int}, IntsAre vs ns → PySem.W.HoldAll h vs ns
  | _, _, .nil => .nil
  | _, _, .cons n t r => .cons (PySem.W.holds_int n t) (hold_ints r)
theorem hold_int {h : Heap} {v : Value} {n : Int} (H : PySem.W.Holds h v n) : ∃ t, v = .int n t := by
  obtain ⟨as, r⟩ := H
  cases r with
  | int i t => exact ⟨t, rfl⟩
theorem hold_same {α : Type} [DecidableEq α] [PySem.W.Datum α] {h : Heap} {v : Value} {x y : α} (H : PySem.W.Holds h v x) (H' : PySem.W.Holds h v y) : x = y := by
  obtain ⟨as, r⟩ := H
  obtain ⟨bs, r'⟩ := H'
  have e := (Reads.unique r _ _ r').1
  have e2 := PySem.W.Datum.eqv x y
  rw [← e] at e2
  have e3 := PySem.W.Datum.eqv x x
  rw [e3] at e2
  exact of_decide_eq_true (e2.symm.trans (decide_eq_true rfl))
section
variable {X : Cx}
theorem cr_minS (hc : X.calm = true) (hu : X.A.units + 64 < cLine) : CallR X (.builtin "min") (rMinS X.K) := by
  intro pins s σ H xs us Q I r h
  obtain ⟨a, ns, rfl, hs, h0, q⟩ := h
  rcases hs with hs | hs
  · exact cr_min hc pins s σ H _ us Q I r ⟨a, ns, rfl, hs, h0, q⟩
  · rw [Vals.ref1 r]
    obtain ⟨its, rv, hl, _⟩ := I.tuple hs
    cases ns with
    | nil => exact absurd h0 (by decide)
    | cons x r =>
      obtain ⟨m1, m2⟩ := minOf_int x r
      refine PySem.W.min_tuple_datum (x := x) (xs := r) (I.ok.hd hc) (show s.heap.IsTuple a its.toArray from hl) (by simpa using hold_ints rv.ints) (by show X.A.units + 1 + 0 < cLine; omega) fun i v h' tk hv hm k => ?_
      obtain ⟨t, rfl⟩ := hold_int hm
      exact ⟨.int _, H, I.kept (t' := tk) k, ⟨t, rfl⟩, q _ m1 m2⟩
theorem minS_i {K : PySem.W.Frag} {H : Hp} {Q : VK} {a : Addr} {ns : List Int} (hs : SqS K H a (ns.map V.int)) (h0 : 0 < ns.length) (q : ∀ m, m ∈ ns → (∀ y, y ∈ ns → m ≤ y) → Q (.int m) H) : rMinS K [.ref a] H Q := ⟨a, ns, rfl, hs, h0, q⟩
/-! ### the least one of a list of pairs of ints -/
/-- p ahead of q, or the same: the first parts, then the second ones -/
def Ahead (p q : Int × Int) : Prop := p.1 < q.1 ∨ (p.1 = q.1 ∧ p.2 ≤ q.2)
theorem minOf_pair : ∀ (xs : List (Int × Int)) (x : Int × Int), Ahead (PySem.W.minOf x xs) x ∧ ∀ y ∈ xs, Ahead (PySem.W.minOf x xs) y
  | [], x => ⟨.inr ⟨rfl, Int.le_refl _⟩, fun y hy => absurd hy (by simp)⟩
  | z :: r, x => by
    have e : PySem.W.minOf x (z :: r) = PySem.W.minOf (if PySem.W.DatumOrd.lt z x = true then z else x) r := rfl
    rw [e]
    have d : PySem.W.DatumOrd.lt z x = if z.1 = x.1 then decide (z.2 < x.2) else decide (z.1 < x.1) := rfl
    by_cases c : PySem.W.DatumOrd.lt z x = true
    · rw [if_pos c]
      obtain ⟨h1, h2⟩ := minOf_pair r z
      rw [d] at c
      have zx : Ahead z x := by
        split at c
        · rename_i h
          exact .inr ⟨h, Int.le_of_lt (of_decide_eq_true c)⟩
        · exact .inl (of_decide_eq_true c)
      refine ⟨tr h1 zx, fun y hy => ?_⟩
      rcases List.mem_cons.mp hy with h | h
      · rw [h]
        exact h1
      · exact h2 y h
    · rw [if_neg c]
      obtain ⟨h1, h2⟩ := minOf_pair r x
      rw [d] at c
      have xz : Ahead x z := by
        split at c
        · rename_i h
          have := of_decide_eq_false (Bool.eq_false_iff.mpr c)
          exact .inr ⟨h.symm, by omega⟩
        · rename_i h
          have := of_decide_eq_false (Bool.eq_false_iff.mpr c)
          exact .inl (by omega)
      refine ⟨h1, fun y hy => ?_⟩
      rcases List.mem_cons.mp hy with h | h
      · rw [h]
        exact tr h1 xz
      · exact h2 y h
where
  tr {a b c : Int × Int} (h : Ahead a b) (h' : Ahead b c) : Ahead a c := by
    unfold Ahead at *
    omega
def rMinP (K : PySem.W.Frag) : List V → Hp → VK → Prop := fun vs H Q => ∃ (a : Addr) (xs : List V) (ps : List (Int × Int)), vs = [V.ref a] ∧ SqL K H a xs ∧ Paired (fun v p => ∃ t, v = V.ref t ∧ SqT K H t [.int p.1, .int p.2]) xs ps ∧ ps ≠ [] ∧
  ∀ (i : Nat) v p, xs[i]? = some v → ps[i]? = some p → (∀ q ∈ ps, Ahead p q) → Q v H
theorem hold_pairs {pins : List (Addr × Obj)} {σ : L2.St} {H : Hp} {s : Shared} (I : L2.Inv X pins σ H s) : ∀ {xs : List V} {ps : List (Int × Int)} {us : List Value}, Paired (fun v p => ∃ t, v = V.ref t ∧ SqT X.K H t [.int p.1, .int p.2]) xs ps → Vals xs us → PySem.W.HoldAll s.heap us ps
  | _, _, _, .nil, .nil => .nil
  | _, _, _, .cons h r, .cons rv rs => by
    obtain ⟨t, rfl, ht⟩ := h
    cases rv
    obtain ⟨its, rv2, hl, _⟩ := I.tuple ht
    refine .cons ?_ (hold_pairs I r rs)
    cases rv2 with
    | cons r1 r2 =>
      cases r2 with
      | cons r3 r4 =>
        cases r4
        obtain ⟨t1, rfl⟩ := r1
        obtain ⟨t2, rfl⟩ := r3
        exact PySem.W.holds_pair (show s.heap.IsTuple t _ from hl) (PySem.W.holds_int _ _) (PySem.W.holds_int _ _)
theorem cr_minP (hc : X.calm = true) (hu : X.A.units + 64 < cLine) : CallR X (.builtin "min") (rMinP X.K) := by
  intro pins s σ H xs us Q I r h
  obtain ⟨a, ys, ps, rfl, hs, hp, h0, q⟩ := h
  rw [Vals.ref1 r]
  obtain ⟨its, rv, hl, _⟩ := I.list hs
  cases ps with
  | nil => exact absurd rfl h0
  | cons x r =>
    have hA := hold_pairs I hp rv
    refine PySem.W.min_list_datum (x := x) (xs := r) (I.ok.hd hc) hl.isList hA (by show X.A.units + 1 + 1 < cLine; omega) fun i v h' tk hv hm k => ?_
    have hv' : its[i]? = some v := by simpa using hv
    obtain ⟨p, hpi, hH⟩ := hA.at hv'
    have e := hold_same (hH.keeps k) hm
    have hlen : ys.length = its.length := rv.length
    obtain ⟨y, hy⟩ : ∃ y, ys[i]? = some y := ⟨_, List.getElem?_eq_getElem (by
      have := (List.getElem?_eq_some_iff.mp hv').1
      omega)⟩
    obtain ⟨u, hu', ru⟩ := rv.get hy
    rw [hv'] at hu'
    cases hu'
    refine ⟨y, H, I.kept (t' := tk) k, ru, q i y p hy hpi fun z hz => ?_⟩
    rw [e]
    obtain ⟨m1, m2⟩ := minOf_pair r x
    rcases List.mem_cons.mp hz with h | h
    · rw [h]
      exact m1
    · exact m2 z h
end
end Sb
set_option Elab.async false
set_option linter.all false
set_option maxRecDepth 100000
set_option maxHeartbeats 4000000
/-! Sb6: own errors: made, raised, caught by several named clauses. -/
namespace Sb
open PySem PySem.Spec PyProof.Rows L2
section
variable {X : Cx} {e : Expr} {es : List Expr} {ta : TA} {x : Str} {p p1 p2 pos : Pos}
/-- B.__init__(self, ..), B an own error without an own __init__ -/
theorem pe_seinit {pl : Sem Bool} {SE : Addr} {mc : Value} (hg : Gl X x) (hm : X.mg x = some (.ref SE)) (rd : ClX.CRead X.K SE mc) (at_ : PySem.W.findCls X.K (.ref SE) mc "__init__" = some (.val (.builtin "ValueError.__init__"))) (ha : PA X (e :: es) ta)
    (hdb : (x == ("__debug__" : Str)) = false := by decide)
    (hc : eval (.Call (.Attribute (.Name x p1) "__init__" p2) (e :: es) [] pos) X.env = (do
      let ov ← eval (.Name x p1) X.env
      standAt p2.atName
      let (f, first) ← holding [ov] (getMethod ov "__init__" pl)
      callWith pos f first (backTo pos (starEach (e :: es) X.env)) (backToKw pos (keywordEach [] X.env))) := by rfl)
    (he : starEach (e :: es) X.env = (false, eval e X.env) :: starEach es X.env := by rfl) (hpl : (backTo pos (starEach es X.env)).any (·.1) = false := by rfl) :
    PE X (.Call (.Attribute (.Name x p1) "__init__" p2) (e :: es) [] pos) (tVeI X.K ta) := by
  refine ⟨fun pins s σ H Q I h => ?_⟩
  refine PySem.W.methodCall_KW (ld_glob I hg hm ?_ hdb) hc
  refine PySem.W.method_cls I.kIn rd.ga (PySem.W.cls_value I.kIn rd.rd at_ (by decide +kernel) ?_)
  show wpAny _ _ (callWith pos (Value.builtin "ValueError.__init__") [] (backTo pos (starEach (e :: es) X.env)) []) _ _ _
  refine PyProof.Rows.callWith_method1 (thn (ha.run pos pins _ σ H _ (I.tok _) h) fun us s1 ⟨vs, H1, I1, r1, a, C, ws, ev, hl, T, ea, q⟩ => ?_) he hpl
  subst ev
  cases r1 with
  | @cons _ u0 _ ur ra rw' =>
    obtain rfl : u0 = Value.ref a := ra
    have hlen : ur.length ≤ sizeLine := by
      rw [← Paired.length rw', sizeLine_eq]
      omega
    exact oinit_ok T I1 ea hlen fun s' J => ⟨.non, H1, J, rfl, q⟩
end

/-! ### several named clauses -/
def wManyN (K : PySem.W.Frag) (Wout : WX) (D : Ends) : List (Value × Nat × (Addr → Value → Option Addr → TS)) → WX
  | [] => Wout
  | (c, i, ts) :: r => fun cls d σ H => ∃ b, PySem.W.exmOne K cls c = some b ∧
    (b = true → ∀ a, H a = none → ts a cls d { nx := fun σ' H' => D.nx (σ'.set i none) H', rt := D.rt, bk := fun σ' H' => D.bk (σ'.set i none) H', ct := fun σ' H' => D.ct (σ'.set i none) H' } (σ.set i (some (.ref a))) H) ∧
    (b = false → wManyN K Wout D r cls d σ H)
inductive HdsN (X : Cx) : List ExceptHandler → List (Value × Nat × (Addr → Value → Option Addr → TS)) → Prop
  | nil : HdsN X [] []
  | cons {x n : Str} {i : Nat} {c : Value} {ts : Addr → Value → Option Addr → TS} {b₀ : Stmt} {suite : List Stmt} {np pos' : Pos} {hds : List ExceptHandler} {l : List (Value × Nat × (Addr → Value → Option Addr → TS))} (hi : X.N[i]? = some n) (hln : X.env.kindOf n = some .local) (hc : Names X x c)
      (hsu : ∀ (a : Addr) (oe : Obj) (cls : Value) (d : Option Addr) (pn : List (Addr × Obj)), Zc cls d oe → (∃ vs, oe.data = .fields vs) → PSs (X.suite a ((a, oe) :: pn)) (b₀ :: suite) (ts a cls d)) (r : HdsN X hds l) :
      HdsN X (.ExceptHandler (some (.Name x np)) (some n) (b₀ :: suite) pos' :: hds) ((c, i, ts) :: l)
section
variable {X : Cx} {body : List Stmt} {h₀ : ExceptHandler} {hds : List ExceptHandler} {l : List (Value × Nat × (Addr → Value → Option Addr → TS))} {pos : Pos} {tb : WX → TS} {Wout : WX}
theorem ps_try_manyN (hs : X.stack = X.env :: X.outer) (hf : X.env.frame = some X.env.locals) (hN : X.N.Nodup) (tk : Takes X Wout)
    (hb : ∀ (W : WX) (pn : List (Addr × Obj)) (xe : Value → Shared → Prop), Takes (X.tr pn xe) W → PassesOwn (model X.prog X.w) X.A X.env xe → PSs (X.tr pn xe) body (tb W))
    (hh : HdsN X (h₀ :: hds) l) : PS X (.Try body (h₀ :: hds) [] [] pos) (fun D σ H => tb (wManyN X.K Wout D l) D σ H) := by
  refine ⟨fun pins s σ H D I h => ?_⟩
  have ok := I.ok
  have hfr : X.A.frames = some (X.env :: X.outer) := by rw [ok.frames, hs]
  refine wpAny_Try_except ?_
  refine wpAny_mono ((hb (wManyN X.K Wout D l) (X.pn ++ pins) (fun e s₁ => wpAny (model X.prog X.w) X.A (noteFrame e X.env) (fun _ s₂ => wpAny (model X.prog X.w) X.A (setFlight e none) (fun _ s₃ =>
    wpAny (model X.prog X.w) X.A (handleBy e X.env (h₀ :: hds)) (SP X pins D) X.xe s₃) X.xe s₂) X.xe s₁) (fun u s' xx => ?_) PassesOwn.looking).run [] s σ H D (I.toTry _) h) (fun f s1 hsp => ?_) (fun e s1 he => he)
  · -- the catch
    obtain ⟨a, B, sI, pins', σ', H', cls, d, rfl, J', nb, up, sky, na, os, ag, w⟩ := xx
    have J : Inv X pins σ' H' sI := J'.ofTry ok
    have sky' : Sky B (X.env :: X.outer) a (Zc cls d) X.env.locals s'.heap := by rw [← hs]; exact sky
    show wpAny (model X.prog X.w) X.A (noteFrame (.ref a) X.env) _ _ _
    refine Sky.land Zc.steady hfr hf sky' fun h3 fl3 up3 => ?_
    have J3 : Inv X pins σ' H' { s' with heap := h3 } := J.landed nb fl3.1 (up.trans up3) os ag
    obtain ⟨oe3, vs3, he3, hz3, hd3⟩ := fl3.there
    have notFr : ∀ {h : Heap} {o : Obj} {vs : Array Value}, h.FunFrames B (X.env :: X.outer) → h.get? a = some o → o.data = .fields vs → a ∉ frs (X.env :: X.outer) := fun {h o vs} ff e dd hm => by
      obtain ⟨_, o', e', hnf⟩ := ff.mem hm
      rw [e] at e'; cases e'
      exact hnf _ dd
    have nfr := notFr fl3.2.2.1 he3 hd3
    have nL : a ≠ X.env.locals := fun z => nfr (List.mem_filterMap.mpr ⟨X.env, List.mem_cons_self, by rw [hf, z]⟩)
    have nF : a ∉ X.fs := fun hm => by
      obtain ⟨e, he, q⟩ := List.mem_filterMap.mp hm
      exact nfr (List.mem_filterMap.mpr ⟨e, List.mem_cons_of_mem _ he, q⟩)
    have S3 := J3.suite he3 hd3 na nL nF
    have go : ∀ {hds' : List ExceptHandler} {l' : List (Value × Nat × (Addr → Value → Option Addr → TS))}, HdsN X hds' l' → wManyN X.K Wout D l' cls d σ' H' →
        wpAny (model X.prog X.w) X.A (handleBy (.ref a) X.env hds') (SP X pins D) X.xe { s' with heap := h3 } := by
      intro hds' l' hk
      induction hk with
      | nil =>
        intro w
        refine wpAny_handleBy_nil ?_
        obtain ⟨k1, k2, k3, oe, vs, T, oT, ts', he, hz, hd, h1, hr⟩ := id fl3
        unfold PySem.passOn
        refine wpAny_bind (wpAny_field he hd h1 ?_)
        rw [if_neg (show ¬ ((Value.ref T == Value.none) = true) from by simp)]
        have fin : wpAny (model X.prog X.w) X.A (setFlight (.ref a) X.env.frame) (fun _ s4 => wpAny (model X.prog X.w) X.A (throw (.ref a) : Sem Flow) (SP X pins D) X.xe s4) X.xe { s' with heap := h3 } := by
          rw [hf]
          refine HandSPX.setFlight_upZ fl3 fun h4 hh4 up4 => wpAny_throw (tk _ _ ?_)
          exact ⟨a, B, sI, pins, σ', H', cls, d, rfl, J, nb, (up.trans up3).trans up4, .inr (.inr (by rw [hs]; exact hh4)), na, os, ag, w⟩
        first
          | exact wpAny_bind (wpAny_pure (wpAny_bind fin))
          | exact wpAny_bind fin
      | @cons x n i c ts b₀ suite np pos' hds2 l2 hi hln hc hsu r ih =>
        intro w
        obtain ⟨b, hb1, hyes, hno⟩ := w
        have hloc : Loc X.env.scope n := .inl hln
        refine wpAny_handleBy_cons (codeAny_handlers_test ?_) (by intro q; cases q)
        have LT : PySem.W.Looks (model X.prog X.w) h3 (typeOf (.ref a)) cls := fun A Q E s k q => wpAny_typeOf_ref (k _ _ he3) (by rw [hz3.1]; exact q)
        have LM := PySem.W.exm_one (M := model X.prog X.w) (J3.kIn) LT hb1
        have test : ∀ {Q : Value → Shared → Prop} {E : Value → Shared → Prop}, Q c { s' with heap := h3 } → wpAny (model X.prog X.w) (X.A.mark (some (.ref a))) (eval (.Name x np) X.env) Q E { s' with heap := h3 } := fun {Q E} q => by
          obtain ⟨hg, hdbg, hm | ⟨hm, hv, hnn⟩⟩ := hc
          · exact ld_glob (X := X.suite a ((a, oe3) :: (X.pn ++ pins))) S3 hg hm q hdbg
          · exact ld_blt (X := X.suite a ((a, oe3) :: (X.pn ++ pins))) S3 hg hm hv q hnn hdbg
        refine test (LM.here ?_)
        cases b with
        | true =>
          refine codeAny_handlers_suite_as ?_
          refine HandSPX.lands_againZ fl3 fun h4 fl4 up4 => ?_
          have J4 : Inv X pins σ' H' { s' with heap := h4 } := J.landed nb fl4.1 ((up.trans up3).trans up4) os ag
          obtain ⟨oe4, vs4, he4, hz4, hd4⟩ := fl4.there
          have S4 := J4.suite he4 hd4 na nL nF
          refine store_ok (X := X.suite a ((a, oe4) :: (X.pn ++ pins))) (v := .ref a) S4 hN hi hloc rfl (fun s5 S5 => ?_) (.inr hln)
          refine wpAny_mono ((hsu a oe4 cls d (X.pn ++ pins) hz4 ⟨_, hd4⟩).run [] s5 _ H' _ S5 (hyes rfl a na)) (fun f s6 hsp => ?_) (fun _ _ z => False.elim z)
          have end_ : ∀ {σ6 : L2.St} {H6 : Hp} {Q : Shared → Prop}, Inv (X.suite a ((a, oe4) :: (X.pn ++ pins))) [] σ6 H6 s6 → (∀ s7, Inv X pins (σ6.set i none) H6 s7 → Q s7) →
              wpAny (model X.prog X.w) X.A (do bindName X.env n .none; unbindBehindTheSuite X.env n pos') (fun _ s7 => Q s7) X.xe s6 := fun {σ6 H6 Q} S6 hq => gone_ok (S6.unsuite ok) hN hi hln hq
          cases f with
          | next =>
            obtain ⟨σ6, H6, S6, q6⟩ := hsp
            exact end_ S6 fun s7 J7 => ⟨_, _, J7, q6⟩
          | brk =>
            obtain ⟨σ6, H6, S6, q6⟩ := hsp
            exact end_ S6 fun s7 J7 => ⟨_, _, J7, q6⟩
          | cont =>
            obtain ⟨σ6, H6, S6, q6⟩ := hsp
            exact end_ S6 fun s7 J7 => ⟨_, _, J7, q6⟩
          | ret u =>
            obtain ⟨v6, σ6, H6, S6, r6, q6⟩ := hsp
            exact end_ S6 fun s7 J7 => ⟨_, _, _, J7, r6, q6⟩
        | false =>
          show wpAny _ X.A (handleBy (.ref a) X.env hds2) _ _ _
          exact ih (hno rfl)
    exact go hh w
  · cases f with
    | next =>
      obtain ⟨σ', H', J', q⟩ := hsp
      exact wpAny_execs_nil ⟨σ', H', J'.ofTry ok, q⟩
    | brk =>
      obtain ⟨σ', H', J', q⟩ := hsp
      exact ⟨σ', H', J'.ofTry ok, q⟩
    | cont =>
      obtain ⟨σ', H', J', q⟩ := hsp
      exact ⟨σ', H', J'.ofTry ok, q⟩
    | ret u =>
      obtain ⟨v, σ', H', J', r, q⟩ := hsp
      exact ⟨v, σ', H', J'.ofTry ok, r, q⟩
end

/-! ### own errors with a field -/
/-- what the text must have of an own error whose __init__ keeps one field -/
structure XcD (P : Program) (w : World) (K : PySem.W.Frag) (mg : Str → Option Value) (base : Heap) (x : Str) (C : Addr) (f : Str) (sp : Sp) : Prop where
  oex : OexC K C
  xf : XfC K C
  m : mg x = some (.ref C)
  fld : PySem.W.findIn K (.ref C) f = some none
  ini : ∃ (fI : Addr) (fd : FuncData) (ps : List Str), PySem.W.findIn K (.ref C) "__init__" = some (some (.ref fI)) ∧ PySem.W.typeIn K (.ref fI) = some (.type "function") ∧ FnOk P w K mg base CX0 1 fI fd ps sp ∧ Binds K fd ps []
section
variable {X : Cx} {x f : Str} {C : Addr} {sp : Sp} {j : Nat} {p pos : Pos} {e : Expr} {es : List Expr} {ta : TA}
theorem pmk_xc (c : XcD X.prog X.w X.K X.mg X.base x C f sp) (hr : Room j X.A) (hk : 2 ≤ j) (hg : Gl X x) (ha : PA X (e :: es) ta)
    (hdb : (x == ("__debug__" : Str)) = false := by decide) (he : starEach (e :: es) X.env = (false, eval e X.env) :: starEach es X.env := by rfl) (hpl : (backTo pos (starEach es X.env)).any (·.1) = false := by rfl) :
    PMk X (.Call (.Name x p) (e :: es) [] pos) (tMkO C sp [] ta) := by
  obtain ⟨fI, fd, ps, iC, tI, F, b⟩ := c.ini
  exact pmk_oex c.oex iC tI F (hr.mono hk) b .nil pass0 hg c.m ha hdb he hpl
end
/-- what an __init__ of one field keeps -/
def SpIni (C : Addr) (f : Str) : Sp := fun vs H Q _ => ∃ (a : Addr) (v : V), vs = [.ref a, v] ∧ H a = some (exo a C none) ∧ ∀ dx, H dx = none → dx ≠ a → Q .non (upd (upd H dx (exd dx [(f, v)])) a (exo a C (some dx)))
theorem exo_ne {a C d : Addr} {fs : List (Str × V)} {H : Hp} (h : H d = none) : upd (del (upd (upd (upd H a (exo a C none)) d (exd d fs)) a (exo a C (some d))) a) d (.xd fs) = fun b => if b = d then some (.xd fs) else if b = a then none else H b := by
  funext b
  by_cases h1 : b = d
  · subst h1
    rw [upd_same, if_pos rfl]
  · rw [upd_ne h1, if_neg h1]
    by_cases h2 : b = a
    · subst h2
      rw [del_same, if_pos rfl]
    · rw [del_ne h2, upd_ne h2, upd_ne h1, upd_ne h2, if_neg h2]
/-- an error made: the world behind it -/
theorem mk_xc {C : Addr} {f : Str} {ta : TA} {σ : L2.St} {H : Hp} {w : Wo} {v : V} {Q : XK} (h : ta σ H fun vs H1 => vs = [v] ∧ w.h = H1)
    (q : ∀ d (u : Wo), Le w u → u.c = w.c → w.h d = none → u.k d = some (.xd [(f, v)]) → Q (.ref C) (some d) u.h) (mono : ∀ (A B : List V → Hp → Prop), (∀ vs H1, A vs H1 → B vs H1) → ta σ H A → ta σ H B) : tMkO C (SpIni C f) [] ta σ H Q := by
  refine mono _ _ (fun vs H1 z => ?_) h
  obtain ⟨rfl, rfl⟩ := z
  refine ⟨by show 1 ≤ 1000; decide, fun a ha => ?_⟩
  refine ⟨a, v, rfl, upd_same, fun dx n ne => ⟨rfl, dx, [(f, v)], upd_same, ?_, ?_, ?_⟩⟩
  · rw [upd_ne ne, upd_same]
  · rw [upd_ne ne] at n
    exact n
  · rw [upd_ne ne] at n
    have e : upd (del (upd (upd (upd w.h a (exo a C none)) dx (exd dx [(f, v)])) a (exo a C (some dx))) a) dx (.xd [(f, v)]) = upd w.h dx (.xd [(f, v)]) := by
      funext b
      by_cases h1 : b = dx
      · subst h1
        rw [upd_same, upd_same]
      · rw [upd_ne h1, upd_ne h1]
        by_cases h2 : b = a
        · subst h2
          rw [del_same, ha]
        · rw [del_ne h2, upd_ne h2, upd_ne h1, upd_ne h2]
    rw [e]
    exact q dx (w.newK dx _ n) (le_newK n (k_none n)) rfl n upd_same
/-- a promise of a def that may raise -/
def SpX {γ : Type} (n : γ → Nat) (pre : γ → Wo → List V → Prop) (post : γ → Wo → V → Wo → Prop) (xpost : γ → Wo → Value → List (Str × V) → Wo → Prop) : Sp := fun vs H Q E => ∃ (g : γ) (w : Wo), w.h = H ∧ w.c + n g ≤ MAXC ∧ pre g w vs ∧
  (∀ v u, Le w u → u.c ≤ w.c + n g → post g w v u → Q v u.h) ∧ ∀ cls d fs u, Le w u → u.c ≤ w.c + n g → xpost g w cls fs u → u.k d = some (.xd fs) → E cls (some d) u.h
section
variable {P : Program} {w : World} {K : PySem.W.Frag} {mg : Str → Option Value} {base : Heap} {x : Str} {st : Stmt} {N ps : List Str} {k : Nat}
theorem Df.calX {γ : Type} (D : Df K mg x st) (S : FnScope N ps (defScope st)) (b : BindsBy x st ps) {n : γ → Nat} {pre : γ → Wo → List V → Prop} {post : γ → Wo → V → Wo → Prop} {xpost : γ → Wo → Value → List (Str × V) → Wo → Prop} (len : ∀ g w vs, pre g w vs → vs.length = ps.length)
    (body : ∀ (qual : Str) (f : Addr) (cdv : Value) (A : Around) (outer : List Env) (s : Shared) (E : XK) (g : γ) (w0 : Wo) (vs : List V) (Q : VK), Room k (A.deeper (envOfC qual (defScope st) s.heap.objs.size f cdv)) → w0.c + n g ≤ MAXC → pre g w0 vs →
      (∀ v u, Le w0 u → u.c ≤ w0.c + n g → post g w0 v u → Q v u.h) → (∀ cls d fs u, Le w0 u → u.c ≤ w0.c + n g → xpost g w0 cls fs u → u.k d = some (.xd fs) → E cls (some d) u.h) →
      ∃ t, PSs (cxOf (L2.CX P w) P w K mg base N qual (defScope st) f cdv A outer s w0.h E) (defBody st) t ∧ t { nx := fun _ H' => Q .non H', rt := Q } (start N vs) w0.h) :
    Cal P w K mg base (L2.CX P w) (k + 1) x ps (SpX n pre post xpost) := by
  obtain ⟨f, fd, F, hm⟩ := D.ex
  refine ⟨f, fd, F.okX S (fun vs H Q E h => ?_) (fun cdv A outer s H vs Q E hr h => ?_), hm, F.kp, F.binds b, fun_lk F⟩
  · obtain ⟨g, w0, _, _, hp, _⟩ := h
    exact len g w0 vs hp
  · obtain ⟨g, w0, rfl, hc, hp, hq, hx⟩ := h
    exact body x f cdv A outer s E g w0 vs Q hr hc hp hq hx
/-- an __init__ -/
theorem ini_ok {qual : Str} {f : Addr} {fd : FuncData} {C : Addr} {fld : Str} (F : Fun K "__init__" qual st f fd) (S : FnScope N ps (defScope st)) (h2 : ps.length = 2) (T : OexC K C)
    (hbody : ∀ (cdv : Value) (A : Around) (outer : List Env) (s : Shared) (H : Hp) (a : Addr) (v : V) (Q : VK) (E : XK), H a = some (exo a C none) → (∀ dx, H dx = none → dx ≠ a → Q .non (upd (upd H dx (exd dx [(fld, v)])) a (exo a C (some dx)))) →
      ∃ t, PSs (cxOf CX0 P w K mg base N qual (defScope st) f cdv A outer s H E).nox (defBody st) t ∧ t { nx := fun _ H' => Q .non H', rt := Q } (start N [.ref a, v]) H) : FnOk P w K mg base CX0 1 f fd ps (SpIni C fld) :=
  F.ok S (fun vs H Q E h => by
    obtain ⟨a, v, rfl, _⟩ := h
    rw [h2]
    rfl) (fun cdv A outer s H vs Q E hr h => by
    obtain ⟨a, v, rfl, ha, hq⟩ := h
    exact hbody cdv A outer s H a v Q E ha hq)
end
end Sb
set_option Elab.async false
set_option linter.all false
set_option maxRecDepth 100000
set_option maxHeartbeats 4000000
/-! Sb7: dicts with whole keys, locked ones, items; ranges with a step; two clauses; while. -/
namespace Sb
open PySem PySem.Spec PyProof.Rows L2

/-! ### dicts with whole keys -/
def mkD (ks : List Int) (g : Int → V) : List (Key × V) := ks.map fun k => (.inl k, g k)
theorem mkD_len {ks : List Int} {g : Int → V} : (mkD ks g).length = ks.length := List.length_map ..
theorem valD {ks : List Int} {g : Int → V} {k : Int} : valV (mkD ks g) (.inl k) = if k ∈ ks then some (g k) else none := by
  induction ks with
  | nil => rfl
  | cons a r ih =>
    show valV ((Sum.inl a, g a) :: mkD r g) (.inl k) = _
    by_cases e : a = k
    · subst e
      rw [valV_pos rfl, if_pos List.mem_cons_self]
    · rw [valV_neg (by intro z; exact e (Sum.inl.inj z)), ih]
      by_cases h : k ∈ r
      · rw [if_pos h, if_pos (List.mem_cons_of_mem _ h)]
      · rw [if_neg h, if_neg (fun z => by
          rcases List.mem_cons.mp z with z | z
          · exact e z.symm
          · exact h z)]
theorem putD {ks : List Int} {g : Int → V} {k : Int} {v : V} : putK (mkD ks g) (.inl k) v = mkD (if k ∈ ks then ks else ks ++ [k]) (fun j => if j = k then v else g j) := by
  have hv := valD (ks := ks) (g := g) (k := k)
  by_cases h : k ∈ ks
  · rw [if_pos h] at hv ⊢
    unfold putK
    rw [valV_any, hv, if_pos (show (some (g k)).isSome = true from rfl)]
    unfold mkD
    rw [List.map_map]
    apply List.map_congr_left
    intro a _
    show (if (Sum.inl a : Key) = .inl k then (Sum.inl a, v) else (Sum.inl a, g a)) = (Sum.inl a, if a = k then v else g a)
    by_cases e : a = k
    · rw [if_pos (by rw [e]), if_pos e]
    · rw [if_neg (by intro z; exact e (Sum.inl.inj z)), if_neg e]
  · rw [if_neg h] at hv ⊢
    rw [putK_new v hv]
    unfold mkD
    rw [List.map_append]
    congr 1
    · apply List.map_congr_left
      intro a ha
      have : a ≠ k := fun e => h (e ▸ ha)
      show (Sum.inl a, g a) = (Sum.inl a, if a = k then v else g a)
      rw [if_neg this]
    · show [((Sum.inl k : Key), v)] = [(Sum.inl k, if k = k then v else g k)]
      rw [if_pos rfl]
theorem mkD_congr {ks : List Int} {g g' : Int → V} (h : ∀ k ∈ ks, g k = g' k) : mkD ks g = mkD ks g' := by
  unfold mkD
  apply List.map_congr_left
  intro a ha
  rw [h a ha]
section
variable {K : PySem.W.Frag} {σ : L2.St} {H : Hp} {Q : VK} {td ty tv : TE} {D : Ends} {a : Addr} {ks : List Int} {g : Int → V} {k : Int}
def nDGet (x y : V) (H : Hp) (Q : VK) : Prop := ∃ a v, x = .ref a ∧ DGet H a y (some v) ∧ Q v H
def nDIn (y x : V) (H : Hp) (Q : VK) : Prop := ∃ a o, x = .ref a ∧ DGet H a y o ∧ Q (.bl o.isSome) H
def nDNotIn (y x : V) (H : Hp) (Q : VK) : Prop := ∃ a o, x = .ref a ∧ DGet H a y o ∧ Q (.bl (!o.isSome)) H
def nDPut (x y v : V) (H : Hp) (N : Hp → Prop) : Prop := ∃ a H4, x = .ref a ∧ DPut H a y v H4 ∧ N H4
theorem x_dget (q : td σ H fun x H1 => ty σ H1 fun y H2 => nDGet x y H2 Q) : tDGet td ty σ H Q := q
theorem x_din (q : ty σ H fun y H1 => td σ H1 fun x H2 => nDIn y x H2 Q) : tDIn ty td σ H Q := q
theorem x_dnotin (q : ty σ H fun y H1 => td σ H1 fun x H2 => nDNotIn y x H2 Q) : tDNotIn ty td σ H Q := q
theorem x_dput (q : tv σ H fun v H1 => td σ H1 fun x H2 => ty σ H2 fun y H3 => nDPut x y v H3 fun H4 => D.nx σ H4) : sDPut td ty tv D σ H := q
theorem dget_i (h : H a = some (.dK (mkD ks g))) (hk : k ∈ ks) (q : Q (g k) H) : nDGet (.ref a) (.int k) H Q := ⟨a, g k, rfl, by
  have e := DGet.k (k := .inl k) h
  rw [valD, if_pos hk] at e
  exact e, q⟩
theorem din_i (h : H a = some (.dK (mkD ks g))) (q : Q (.bl (decide (k ∈ ks))) H) : nDIn (.int k) (.ref a) H Q := ⟨a, valV (mkD ks g) (.inl k), rfl, DGet.k (k := .inl k) h, by
  have e : (valV (mkD ks g) (.inl k)).isSome = decide (k ∈ ks) := by
    rw [valD]
    by_cases hk : k ∈ ks
    · rw [if_pos hk, decide_eq_true hk]; rfl
    · rw [if_neg hk, decide_eq_false hk]; rfl
  rw [e]
  exact q⟩
theorem dnotin_i (h : H a = some (.dK (mkD ks g))) (q : Q (.bl (!decide (k ∈ ks))) H) : nDNotIn (.int k) (.ref a) H Q := ⟨a, valV (mkD ks g) (.inl k), rfl, DGet.k (k := .inl k) h, by
  have e : (valV (mkD ks g) (.inl k)).isSome = decide (k ∈ ks) := by
    rw [valD]
    by_cases hk : k ∈ ks
    · rw [if_pos hk, decide_eq_true hk]; rfl
    · rw [if_neg hk, decide_eq_false hk]; rfl
  rw [e]
  exact q⟩
theorem dput_i {v : V} {N : Hp → Prop} (h : H a = some (.dK (mkD ks g))) (hz : ks.length < 1000000) (q : N (upd H a (.dK (mkD (if k ∈ ks then ks else ks ++ [k]) (fun j => if j = k then v else g j))))) : nDPut (.ref a) (.int k) v H N :=
  ⟨a, _, rfl, DPut.k (k := .inl k) h (by rw [mkD_len]; exact szlt hz), by rw [putD]; exact q⟩
/-- a display with one pair -/
def nDisp (H : Hp) (P : (List (V × V) → Hp → Prop) → Hp → Prop) (Q : VK) : Prop := ∀ p, H p = none → P (fun ps H2 => H2 p = some (.dK []) ∧ ∃ kvs : List (Key × V), ps = kvs.map (fun kv => (kV kv.1, kv.2)) ∧ kvs.length ≤ 15 ∧ Q (.ref p) (upd H2 p (.dK (mergeK [] kvs)))) (upd H p (.dK []))
theorem disp1 {w : Wo} {v : V} (hk : ∀ H R, (R (.int k) H → td σ H R)) (hv : ∀ H R, (R v H → tv σ H R)) (q : OO w (.dK (mkD [k] (fun _ => v))) Q) : tDisp [(td, tv)] σ w.h Q := fun p hp => by
  refine hk _ _ (hv _ _ ⟨upd_same, [(.inl k, v)], rfl, (by show 1 ≤ 15; decide), ?_⟩)
  have e : upd (upd w.h p (.dK [])) p (.dK (mergeK [] [(.inl k, v)])) = upd w.h p (.dK (mkD [k] (fun _ => v))) := by
    funext b
    by_cases hb : b = p
    · subst hb
      rw [upd_same, upd_same]
      rfl
    · rw [upd_ne hb, upd_ne hb, upd_ne hb]
  rw [e]
  exact q p (w.newO p _ hp) (le_newO hp) rfl hp upd_same (k_none (w := w) hp) rfl
end

/-! ### a locked dict -/
theorem lock_end {w v u : Wo} {a : Addr} {x y : HO} (ha : w.h a = some x) (hk : w.k a = none) (hb : w.b ≠ some a) (hvk : v.k = w.k) (hvb : v.b = w.b) (hvc : v.c = w.c) (hvh : v.h = upd w.h a y) (le : Le v u) :
    u.h a = some y ∧ ∃ z : Wo, z.h = upd u.h a x ∧ z.k = u.k ∧ z.c = u.c ∧ z.b = u.b ∧ Le w z := by
  have hva : v.h a = some y := by rw [hvh]; exact upd_same
  have hvka : v.k a = none := by rw [hvk]; exact hk
  have hua := le.h a y (by rw [hvb]; exact hb) hva
  have huk := le.own a y hva hvka
  have hub : u.b ≠ some a := by rw [le.b, hvb]; exact hb
  refine ⟨hua, u.put a x huk hub, rfl, rfl, rfl, rfl, ?_⟩
  refine ⟨?_, ?_, ?_, ?_, ?_⟩
  · show u.b = w.b
    rw [le.b, hvb]
  · show Same w.k u.k
    rw [← hvk]
    exact le.k
  · intro b o nb h
    show upd u.h a x b = some o
    by_cases e : b = a
    · subst e
      rw [upd_same, ← ha, h]
    · rw [upd_ne e]
      exact le.h b o (by rw [hvb]; exact nb) (by rw [hvh, upd_ne e]; exact h)
  · intro b o h n
    show u.k b = none
    by_cases e : b = a
    · subst e
      exact huk
    · exact le.own b o (by rw [hvh, upd_ne e]; exact h) (by rw [hvk]; exact n)
  · show w.c ≤ u.c
    have := le.c
    omega

/-! ### items -/
def nLcD (g : TG) (tt : TT) (te : TE) (vs : List Nat) (σ : L2.St) (x : V) (H : Hp) (Q : VK) : Prop := ∃ d o kvs, x = .ref d ∧ H d = some (.frz o (.dK kvs)) ∧ LcOf (Iti d o kvs) g tt te vs σ H Q
section
variable {K : PySem.W.Frag} {σ : L2.St} {w : Wo} {H : Hp} {Q : VK} {ta : TA} {tl te : TE} {tt : TT} {xs : List V} {vs : List Nat} {a : Addr} {g : TG} {tb : TS} {D : Ends}
theorem x_lcD (q : tl σ H fun x H1 => nLcD g tt te vs σ x H1 Q) : tLc (iItems tl) g tt te vs σ H Q := q
theorem lc_items {d : Addr} {o : Obj} {kvs : List (Key × V)} (hd : w.h d = some (.frz o (.dK kvs))) (hb : w.b ≠ some d) (m : Nat) (I : Nat → List V → Hp → Prop) (h0 : I 0 [] w.k) (hn : kvs.length ≤ 1000000) (mono : ∀ i acc k k', Same k k' → I i acc k → I i acc k')
    (hs : ∀ i k x T acc (v : Wo), kvs[i]? = some (k, x) → Le w v → v.c ≤ w.c + i * m → v.k T = some (.tup [kV k, x]) → I i acc v.k → ∀ (Qy : VK) (Qn : Hp → Prop), (∀ y (u : Wo), Le v u → u.c ≤ v.c + m → I (i + 1) (acc ++ [y]) u.k → Qy y u.h) → (∀ u : Wo, Le v u → u.c ≤ v.c + m → I (i + 1) acc u.k → Qn u.h) →
      g (.ref T) (wipe σ vs) v.h fun σ2 H2 => wipe σ2 vs = wipe σ vs ∧ tt σ2 H2 fun b H3 => if b = true then te σ2 H3 Qy else Qn H3)
    (he : ∀ p xs (v : Wo), Le w v → v.c ≤ w.c + kvs.length * m → w.h p = none → v.h p = some (.lst xs) → v.k p = none → I kvs.length xs v.k → Q (.ref p) v.h) : nLcD g tt te vs σ (.ref d) w.h Q := by
  refine ⟨d, o, kvs, rfl, hd, ?_⟩
  exact lc_w walk_items m I h0 hn (fun v l => l.h d _ hb hd) (fun i x acc v H' hi l hc hI y Qy Qn qy qn => by
    obtain ⟨T, x1, z1, rfl, hT, rfl, e1, e2⟩ := y
    have ht := le_newK (w := v) (o := .tup [x1, z1]) hT (k_none hT)
    obtain ⟨⟨k, x⟩, hkv⟩ : ∃ p, kvs[i]? = some p := ⟨kvs[i], List.getElem?_eq_getElem hi⟩
    have e1 : (kvs[i]?).map (fun kv => kV kv.1) = some x1 := e1
    have e2 : (kvs[i]?).map Prod.snd = some z1 := e2
    rw [hkv] at e1 e2
    cases e1
    cases e2
    exact hs i k x T acc (v.newK T _ hT) hkv (l.trans ht) hc upd_same (mono _ _ _ _ ht.k hI) Qy Qn (fun y u lu cu => qy y u (ht.trans lu) cu) (fun u lu cu => qn u (ht.trans lu) cu)) he

/-! ### ranges with a step -/
def nForR3 (g : TG) (tb : TS) (D : Ends) (σ : L2.St) (vs : List V) (H : Hp) : Prop := ∃ (i j c : Int) (n : Nat), vs = [.int i, .int j, .int c] ∧ RgC i j c n ∧ LoopOf (Itc i c n) g tb D σ H
def nLcR3 (g : TG) (tt : TT) (te : TE) (vs : List Nat) (σ : L2.St) (xs : List V) (H : Hp) (Q : VK) : Prop := ∃ (i j c : Int) (n : Nat), xs = [.int i, .int j, .int c] ∧ RgC i j c n ∧ LcOf (Itc i c n) g tt te vs σ H Q
theorem x_forR3 (q : ta σ H fun x H1 => nForR3 g tb D σ x H1) : tFor (iRng3 ta) g tb D σ H := q
theorem x_lcR3 (q : ta σ H fun x H1 => nLcR3 g tt te vs σ x H1 Q) : tLc (iRng3 ta) g tt te vs σ H Q := q
theorem for_r3 {i j c : Int} {n : Nat} (r : RgC i j c n) (h : ForP g tb D σ w n (fun k x => x = .int (i + (k : Int) * c)) (fun _ => True)) : nForR3 g tb D σ [.int i, .int j, .int c] w.h := by
  refine ⟨i, j, c, n, rfl, r, ?_⟩
  obtain ⟨I, h0, hs, ht, hd⟩ := h
  exact for_w walk_rangeC I h0 (fun _ _ _ _ _ => trivial) (fun i x σ v H' hi q y => by
    obtain ⟨rfl, e⟩ := y
    exact ht i x σ v hi e q) hd
theorem lc_r3 {i j c : Int} {n : Nat} (r : RgC i j c n) (h : LcP g tt te vs σ w n (fun k x => x = .int (i + (k : Int) * c)) Q) : nLcR3 g tt te vs σ [.int i, .int j, .int c] w.h Q := by
  refine ⟨i, j, c, n, rfl, r, ?_⟩
  obtain ⟨m, I, h0, hn, ht, hd⟩ := h
  exact lc_w walk_rangeC m I h0 hn (fun _ _ => trivial) (fun i x acc v H' hi l hc hI y => by
    obtain ⟨rfl, e⟩ := y
    exact ht i x acc v hi e l hc hI) hd
theorem x_while {c : TT} {tb : TS} (I : Nat → L2.St → Wo → Prop) (n : Nat) (h0 : I n σ w) (hs : ∀ n σ v, I n σ v → c σ v.h fun b H1 => if b = true then tb { D with nx := fun σ' H' => ∃ n', n' < n ∧ At (I n') σ' H', ct := fun σ' H' => ∃ n', n' < n ∧ At (I n') σ' H', bk := D.nx } σ H1 else D.nx σ H1)
    (mono : ∀ σ H (A B : Bool → Hp → Prop), (∀ b H1, A b H1 → B b H1) → c σ H A → c σ H B) : tWhile c tb D σ w.h := by
  refine ⟨fun n σ H => At (I n) σ H, ⟨n, w, rfl, h0⟩, fun n σ H p => ?_⟩
  obtain ⟨v, rfl, q⟩ := p
  refine mono _ _ _ _ (fun b H1 z => ?_) (hs n σ v q)
  cases b with
  | true => exact ⟨_, fun _ _ z => z, z⟩
  | false => exact z
end
/-- small steps -/
theorem rgC_mul {i c : Int} {q : Nat} (h0 : 0 ≤ i) (h1 : i ≤ 1000000) (c0 : 1 ≤ c) (c1 : c ≤ 1000000) (h2 : i + q * c ≤ 1000000) : RgC i (i + q * c) c q := by
  have hq : (q : Int) ≤ q * c := by
    have := Int.mul_le_mul_of_nonneg_left c0 (show (0 : Int) ≤ q by omega)
    omega
  have e : Builtin.Range.rangeSize i (i + q * c) c = q := by
    unfold Builtin.Range.rangeSize
    rw [if_pos (by omega)]
    by_cases hz : q = 0
    · subst hz
      rw [if_neg (by simp)]
      rfl
    · rw [if_pos (by omega)]
      have e1 : i + q * c - i - 1 = (c - 1) + (q - 1) * c := by
        rw [Int.sub_mul]
        omega
      rw [e1, Int.add_mul_ediv_right _ _ (by omega), Int.ediv_eq_zero_of_lt (by omega) (by omega)]
      omega
  refine ⟨by omega, by omega, ?_, e⟩
  unfold Builtin.Range.small
  rw [e]
  simp only [Builtin.Range.rangeFitsLong, Bool.and_eq_true, Bool.or_eq_true, decide_eq_true_eq, beq_iff_eq]
  rw [if_pos (show c > 0 by omega)]
  simp only [Bool.and_eq_true, decide_eq_true_eq]
  omega

/-! ### two ranges, one within the other, nothing done but reading -/
def flat2 (k : Nat → Nat) (v : Nat → Nat → V) (n : Nat) : List V := (List.range n).flatMap fun a => (List.range (k a)).map (v a)
theorem flat2_succ {k : Nat → Nat} {v : Nat → Nat → V} {n : Nat} : flat2 k v (n + 1) = flat2 k v n ++ (List.range (k n)).map (v n) := by
  unfold flat2
  rw [List.range_succ, List.flatMap_append]
  simp
def nLc2R (wi1 : TI) (g : TG) (tt : TT) (g1 : TG) (tt1 : TT) (te : TE) (vs vs1 : List Nat) (σ : L2.St) (xs : List V) (H : Hp) (Q : VK) : Prop := ∃ j : Int, xs = [.int j] ∧ -(2 ^ 62) ≤ j ∧ j < 2 ^ 62 ∧ tLc2 (fun _ H R => R (Itr 0 j.toNat) H) g tt wi1 g1 tt1 te vs vs1 σ H Q
section
variable {σ : L2.St} {w : Wo} {H : Hp} {Q : VK} {ta : TA} {wi1 : TI} {te : TE} {tt tt1 : TT} {vs vs1 : List Nat} {g g1 : TG}
theorem x_lc2R (q : ta σ H fun xs H1 => nLc2R wi1 g tt g1 tt1 te vs vs1 σ xs H1 Q) : tLc2 (iRng1 ta) g tt wi1 g1 tt1 te vs vs1 σ H Q := q
theorem lc2_c {n : Int} (hn : n ≤ 1000000) (h0 : 0 ≤ n) (s2 : Nat → L2.St) (lo c : Nat → Int) (k : Nat → Nat) (v : Nat → Nat → V) (hz : (flat2 k v n.toNat).length ≤ 1000000)
    (hs1 : ∀ i (u : Wo), i < n.toNat → Le w u → u.c = w.c → ∀ (R : It → Hp → Prop) (Nx : Hp → Prop), R (Itc (lo i) (c i) (k i)) u.h →
      g (.int (0 + (i : Int))) (wipe σ vs) u.h fun σ2 H2 => wipe σ2 vs = wipe σ vs ∧ tt σ2 H2 fun b H3 => σ2 = s2 i ∧ if b = true then wi1 σ2 H3 R else Nx H3)
    (hs2 : ∀ i j (u : Wo), i < n.toNat → j < k i → Le w u → u.c = w.c → ∀ (Qy : VK) (Qn : Hp → Prop), Qy (v i j) u.h →
      g1 (.int (lo i + (j : Int) * c i)) (wipe (s2 i) vs1) u.h fun σ3 H5 => wipe σ3 vs1 = wipe (s2 i) vs1 ∧ tt1 σ3 H5 fun b H6 => if b = true then te σ3 H6 Qy else Qn H6)
    (gm : ∀ x σ H (A B : L2.St → Hp → Prop), (∀ σ H, A σ H → B σ H) → g x σ H A → g x σ H B) (tm : ∀ σ H (A B : Bool → Hp → Prop), (∀ b H, A b H → B b H) → tt σ H A → tt σ H B)
    (hd : ∀ p (u : Wo), Le w u → u.c = w.c → w.h p = none → u.h p = some (.lst (flat2 k v n.toNat)) → u.k p = none → Q (.ref p) u.h) : nLc2R wi1 g tt g1 tt1 te vs vs1 σ [.int n] w.h Q := by
  refine ⟨n, rfl, by omega, by omega, fun D hD => ?_⟩
  have mono2 : ∀ i, i ≤ n.toNat → (flat2 k v i).length ≤ (flat2 k v n.toNat).length := by
    intro i hi
    have key : ∀ d, i + d ≤ n.toNat → (flat2 k v i).length ≤ (flat2 k v (i + d)).length := by
      intro d
      induction d with
      | zero => intro _; exact Nat.le_refl _
      | succ d ih =>
        intro h
        refine Nat.le_trans (ih (by omega)) ?_
        rw [show i + (d + 1) = (i + d) + 1 by omega, flat2_succ, List.length_append]
        omega
    have := key (n.toNat - i) (by omega)
    rwa [show i + (n.toNat - i) = n.toNat by omega] at this
  let Ok : Wo → List V → Prop := fun u acc => Le w u ∧ u.c = w.c ∧ u.h D = some (.lst acc) ∧ u.k D = none
  refine ⟨fun i m H => m = n.toNat - i ∧ i ≤ n.toNat ∧ ∃ u, u.h = H ∧ Ok u (flat2 k v i), ⟨_, rfl, Nat.zero_le _, w.newO D (.lst []) hD, rfl, le_newO hD, rfl, upd_same, (k_none hD : w.k D = none)⟩, ?_⟩
  rintro i m H ⟨rfl, hi, u, rfl, lu, cu, hu, ku⟩
  by_cases hlt : i < n.toNat
  · refine .inr ⟨hlt, fun H => i + 1 ≤ n.toNat ∧ ∃ u, u.h = H ∧ Ok u (flat2 k v (i + 1)), fun H' p => ⟨n.toNat - (i + 1), by omega, rfl, p.1, p.2⟩, fun x H' y => ?_⟩
    obtain ⟨rfl, rfl⟩ := y
    refine gm _ _ _ _ _ (fun σ2 H2 z => ⟨z.1, tm _ _ _ _ (fun b H3 z => ?_) z.2⟩) (hs1 i u hlt lu cu (fun J1 H4 => ∃ W1 : Nat → Nat → Hp → Prop, (∃ m, W1 0 m H4) ∧ ∀ j kk H, W1 j kk H →
      (J1.stop j H ∧ (i + 1 ≤ n.toNat ∧ ∃ u, u.h = H ∧ Ok u (flat2 k v (i + 1)))) ∨ (J1.go j H ∧ ∃ Nx1 : Hp → Prop, (∀ H', Nx1 H' → ∃ k', k' < kk ∧ W1 (j + 1) k' H') ∧ ∀ x H', J1.yld j H x H' → g1 x (wipe (s2 i) vs1) H' fun σ3 H5 => wipe σ3 vs1 = wipe (s2 i) vs1 ∧ tt1 σ3 H5 fun b H6 =>
        if b = true then te σ3 H6 fun y H7 => ∃ acc, H7 D = some (.lst acc) ∧ acc.length < sizeLine ∧ Nx1 (upd H7 D (.lst (acc ++ [y]))) else Nx1 H6)) (fun H => i + 1 ≤ n.toNat ∧ ∃ u, u.h = H ∧ Ok u (flat2 k v (i + 1))) ?_)
    · obtain ⟨rfl, z⟩ := z
      exact z
    · refine ⟨fun j kk H => kk = k i - j ∧ j ≤ k i ∧ ∃ u, u.h = H ∧ Ok u (flat2 k v i ++ (List.range j).map (v i)), ⟨_, rfl, Nat.zero_le _, u, rfl, lu, cu, by simpa using hu, ku⟩, ?_⟩
      rintro j kk H ⟨rfl, hj, u2, rfl, lu2, cu2, hu2, ku2⟩
      by_cases hjt : j < k i
      · refine .inr ⟨hjt, fun H => j + 1 ≤ k i ∧ ∃ u, u.h = H ∧ Ok u (flat2 k v i ++ (List.range (j + 1)).map (v i)), fun H' p => ⟨k i - (j + 1), by omega, rfl, p.1, p.2⟩, fun x H' y => ?_⟩
        obtain ⟨rfl, rfl⟩ := y
        refine hs2 i j u2 hlt hjt lu2 cu2 _ _ ⟨_, hu2, ?_, by omega, u2.put D _ ku2 (lu2.nobox hD), rfl, lu2.put ku2 (lu2.nobox hD) hD, cu2, ?_, ku2⟩
        · refine szlt ?_
          have h1 := mono2 (i + 1) hlt
          rw [flat2_succ, List.length_append, List.length_map, List.length_range] at h1
          rw [List.length_append, List.length_map, List.length_range]
          omega
        · show upd u2.h D _ D = _
          rw [upd_same, List.range_succ, List.map_append, List.append_assoc]
          rfl
      · have ej : j = k i := by omega
        subst ej
        exact .inl ⟨Nat.le_refl _, hlt, u2, rfl, lu2, cu2, by rw [flat2_succ]; exact hu2, ku2⟩
  · have ei : i = n.toNat := by omega
    subst ei
    exact .inl ⟨Nat.le_refl _, hd D u lu cu hD hu ku⟩
end
end Sb
set_option Elab.async false
set_option linter.all false
set_option maxRecDepth 100000
set_option maxHeartbeats 2000000
/-! Sb8: a list of ints, of pairs, of refs to nothing, against the empty one. -/
namespace Sb
open PySem PySem.Spec PyProof.Rows L2
theorem dp_ints {K : PySem.W.Frag} {H : Hp} : ∀ ns : List Int, DpAll K H (ns.map V.int) (ns.map PyData.int)
  | [] => .nil
  | n :: r => .cons (.int n) (dp_ints r)
def prP (p : Int × Int) : PyData := .tuple [.int p.1, .int p.2]
theorem prP_lay : ∀ ps : List (Int × Int), PyData.canLayAll0 (ps.map prP) = true
  | [] => by simp [PyData.canLayAll0]
  | z :: zs => by simp [PyData.canLayAll0, PyData.canLay0, prP, prP_lay zs]
theorem prP_depth : ∀ ps : List (Int × Int), PyData.depthAll (ps.map prP) ≤ 1
  | [] => by simp [PyData.depthAll]
  | z :: zs => by
    have h1 := prP_depth zs
    have h2 : (prP z).depth = 1 := by simp [prP, PyData.depth, PyData.depthAll]
    simp only [List.map_cons, PyData.depthAll]
    omega
theorem prP_shaped (ps : List (Int × Int)) : SeqAt.shaped (.list (ps.map prP)) = true := by
  have h1 := prP_depth ps
  have h2 : PyData.depth (.list (ps.map prP)) ≤ 64 := by
    simp only [PyData.depth]
    omega
  show (PyData.canLay0 (.list (ps.map prP)) && decide (PyData.depth (.list (ps.map prP)) ≤ 64)) = true
  rw [Bool.and_eq_true]
  exact ⟨by simp only [PyData.canLay0]; exact prP_lay ps, decide_eq_true h2⟩
theorem eqv_nil : ∀ ds : List PyData, PyData.eqv (.list ds) (.list []) = ds.isEmpty
  | [] => by simp [PyData.eqv, PyData.eqvAll]
  | d :: r => by simp [PyData.eqv, PyData.eqvAll]
section
variable {K : PySem.W.Frag} {H : Hp} {Q : VK} {a b : Addr}
def prsAt (K : PySem.W.Frag) (H : Hp) (xs : List V) (ps : List (Int × Int)) : Prop := Paired (fun v p => ∃ t, v = V.ref t ∧ SqT K H t [.int p.1, .int p.2]) xs ps
theorem dp_prs : ∀ {xs : List V} {ps : List (Int × Int)}, prsAt K H xs ps → DpAll K H xs (ps.map prP)
  | _, _, .nil => .nil
  | _, _, .cons h r => by
    obtain ⟨t, rfl, ht⟩ := h
    exact .cons (.tup ht (.cons (.int _) (.cons (.int _) .nil))) (dp_prs r)
theorem neNil_prs {xs : List V} {ps : List (Int × Int)} (h : SqL K H a xs) (hp : prsAt K H xs ps) (h2 : H b = some (.lst [])) (q : Q (.bl (!ps.isEmpty)) H) : rNeD K (.ref a) (.ref b) H Q :=
  ⟨.list (ps.map prP), .list [], .lst h (dp_prs hp), .lst (SqL.of h2) .nil, prP_shaped ps, by decide +kernel, by
    rw [eqv_nil]
    cases ps <;> exact q⟩
theorem eqNil_ints {ns : List Int} (h : SqL K H a (ns.map V.int)) (h2 : H b = some (.lst [])) (q : Q (.bl ns.isEmpty) H) : rEqD K (.ref a) (.ref b) H Q :=
  ⟨.list (ns.map .int), .list [], .lst h (dp_ints ns), .lst (SqL.of h2) .nil, PySem.W.ke_shaped_ints ns, by decide +kernel, by
    rw [eqv_nil]
    cases ns <;> exact q⟩
theorem neNil_ints {ns : List Int} (h : SqL K H a (ns.map V.int)) (h2 : H b = some (.lst [])) (q : Q (.bl (!ns.isEmpty)) H) : rNeD K (.ref a) (.ref b) H Q :=
  ⟨.list (ns.map .int), .list [], .lst h (dp_ints ns), .lst (SqL.of h2) .nil, PySem.W.ke_shaped_ints ns, by decide +kernel, by
    rw [eqv_nil]
    cases ns <;> exact q⟩
theorem prsAt_mono {H' : Hp} (e : Same H H') : ∀ {xs : List V} {ps : List (Int × Int)}, prsAt K H xs ps → prsAt K H' xs ps
  | _, _, .nil => .nil
  | _, _, .cons h r => by
    obtain ⟨t, rfl, ht⟩ := h
    refine .cons ⟨t, rfl, ?_⟩ (prsAt_mono e r)
    rcases ht with (q | ⟨o, q⟩) | q
    · exact .inl (.inl (e _ _ q))
    · exact .inl (.inr ⟨o, e _ _ q⟩)
    · exact .inr q
theorem prsAt_snoc : ∀ {xs : List V} {ps : List (Int × Int)} {v : V} {p : Int × Int}, prsAt K H xs ps → (∃ t, v = V.ref t ∧ SqT K H t [.int p.1, .int p.2]) → prsAt K H (xs ++ [v]) (ps ++ [p])
  | _, _, _, _, .nil, q => .cons q .nil
  | _, _, _, _, .cons h r, q => .cons h (prsAt_snoc r q)
theorem prsAt_len : ∀ {xs : List V} {ps : List (Int × Int)}, prsAt K H xs ps → xs.length = ps.length
  | _, _, .nil => rfl
  | _, _, .cons _ r => congrArg (· + 1) (prsAt_len r)
theorem minP_s {xs : List V} {ps : List (Int × Int)} (h : SqL K H a xs) (hp : prsAt K H xs ps) (h0 : ps ≠ []) (q : ∀ t p, p ∈ ps → (∀ q ∈ ps, Ahead p q) → SqT K H t [.int p.1, .int p.2] → Q (.ref t) H) : rMinP K [.ref a] H Q := by
  refine ⟨a, xs, ps, rfl, h, hp, h0, fun i v p hv hpi hA => ?_⟩
  have key : ∀ {xs : List V} {ps : List (Int × Int)} (i : Nat), prsAt K H xs ps → xs[i]? = some v → ps[i]? = some p → ∃ t, v = V.ref t ∧ SqT K H t [.int p.1, .int p.2] := by
    intro xs ps i h
    induction h generalizing i with
    | nil => intro z; cases z
    | cons h r ih =>
      intro z1 z2
      cases i with
      | zero => cases z1; cases z2; exact h
      | succ i => exact ih i z1 z2
  obtain ⟨t, rfl, ht⟩ := key i hp hv hpi
  exact q t p (List.mem_of_getElem? hpi) hA ht
end
theorem x_yes {σ : L2.St} {H : Hp} {Q : Bool → Hp → Prop} (q : Q true H) : tYes σ H Q := q
/-! ### errors made -/
def nMk (C : Addr) (sp : Sp) (vs : List V) (H1 : Hp) (Q : XK) : Prop := vs.length ≤ 1000 ∧ ∀ a, H1 a = none → sp (.ref a :: (vs ++ [])) (upd H1 a (exo a C none))
  (fun v H2 => v = .non ∧ ∃ (d : Addr) (fs : List (Str × V)), H2 a = some (exo a C (some d)) ∧ H2 d = some (exd d fs) ∧ H1 d = none ∧ Q (.ref C) (some d) (upd (del H2 a) d (.xd fs))) (fun _ _ _ => False)
theorem x_mkO {C : Addr} {sp : Sp} {ta : TA} {σ : L2.St} {H : Hp} {Q : XK} (q : ta σ H fun vs H1 => nMk C sp vs H1 Q) : tMkO C sp [] ta σ H Q := q
theorem mk_w {C : Addr} {f : Str} {w : Wo} {v : V} {Q : XK} (q : ∀ d (u : Wo), Le w u → u.c = w.c → w.h d = none → u.k d = some (.xd [(f, v)]) → Q (.ref C) (some d) u.h) : nMk C (SpIni C f) [v] w.h Q :=
  mk_xc (ta := fun _ H Q => Q [v] H) (σ := []) ⟨rfl, rfl⟩ q fun _ _ h z => h _ _ z
/-! ### locked -/
theorem x_lock {w : Wo} {a : Addr} {x : HO} {t : TS} {D : Ends} {σ : L2.St} (ha : w.h a = some x) (mu : Mut (some x)) (hk : w.k a = none) (hb : w.b ≠ some a)
    (q : ∀ od (v : Wo), v.k = w.k → v.c = w.c → v.b = w.b → v.h = upd w.h a (.frz od x) → (∀ u : Wo, Le v u → u.h a = some (.frz od x) ∧ ∃ z : Wo, z.h = upd u.h a x ∧ z.k = u.k ∧ z.c = u.c ∧ z.b = u.b ∧ Le w z) →
      t ⟨fun σ' H' => H' a = some (.frz od x) ∧ D.nx σ' (upd H' a x), fun v H' => H' a = some (.frz od x) ∧ D.rt v (upd H' a x), fun σ' H' => H' a = some (.frz od x) ∧ D.bk σ' (upd H' a x), fun σ' H' => H' a = some (.frz od x) ∧ D.ct σ' (upd H' a x)⟩ σ v.h) : tLock t D σ w.h :=
  ⟨a, x, ha, mu, fun od => q od (w.put a (.frz od x) hk hb) rfl rfl rfl rfl fun u le => lock_end (v := w.put a (.frz od x) hk hb) (y := .frz od x) ha hk hb rfl rfl rfl rfl le⟩
theorem mkD_get {ks : List Int} {g : Int → V} {i : Nat} {k : Key} {x : V} (h : (mkD ks g)[i]? = some (k, x)) : ∃ n, ks[i]? = some n ∧ k = .inl n ∧ x = g n := by
  unfold mkD at h
  rw [List.getElem?_map] at h
  cases e : ks[i]? with
  | none => rw [e] at h; cases h
  | some n =>
    rw [e] at h
    cases h
    exact ⟨n, rfl, rfl, rfl⟩
/-- an owned thing new since w0 stands for good from now on -/
theorem frz_w {w0 w1 w : Wo} (e : Le w0 w) {p : Addr} {o : HO} (h0 : w1.h p = none) (hp : w.h p = some o) (hk : w.k p = none) (l0 : Le w0 w1 := by assumption) : ∃ z : Wo, (z.h = w.h ∧ Le w0 z ∧ z.c = w.c) ∧ z.k p = some o := by
  have n0 := l0.fresh h0
  exact ⟨w.frz p o hp (e.nobox n0), ⟨rfl, e.frz hp (e.nobox n0) n0 hk, rfl⟩, upd_same⟩
/-! ### a comprehension within a comprehension -/
theorem relabel_eq {sc0 : Scope} {env env' : Env} (e : env.scope = env'.scope) : relabel sc0 env = relabel sc0 env' := by
  unfold relabel Env.kindOf
  rw [e]
theorem blkOk_in {N : List Str} {sc0 sce scope : Scope} {own : List (Str × Nat)} {cl : List (Str × Addr)} {C : Addr} {env : Env} (e : env.scope = sce) (h : blkC N (relabel sc0 { scope := sce, locals := 0, globals := 0, cells := [] }) scope own = true) :
    BlkOk N (compEnvC sc0 cl C env).scope scope own := by
  have q : (compEnvC sc0 cl C env).scope = relabel sc0 { scope := sce, locals := 0, globals := 0, cells := [] } := relabel_eq e
  rw [q]
  exact blkOk_by h
/-! ### tuples stored -/
section
variable {K : PySem.W.Frag} {σ : L2.St} {H : Hp} {QG : L2.St → Hp → Prop} {a : Addr} {n : Nat} {t t1 t2 : TG} {ts : TGs} {x y : V}
theorem gt2 (h : SqT K H a [x, y]) (q : t1 x σ H fun σ' H' => t2 y σ' H' QG) (m1 : ∀ x σ H (A B : L2.St → Hp → Prop), (∀ σ H, A σ H → B σ H) → t1 x σ H A → t1 x σ H B) (m2 : ∀ x σ H (A B : L2.St → Hp → Prop), (∀ σ H, A σ H → B σ H) → t2 x σ H A → t2 x σ H B) :
    gTup K 2 (gCons t1 (gCons t2 gNil)) (.ref a) σ H QG :=
  ⟨a, [x, y], rfl, h, rfl, x, [y], rfl, m1 _ _ _ _ _ (fun σ' H' z => ⟨y, [], rfl, m2 _ _ _ _ _ (fun _ _ z => ⟨rfl, z⟩) z⟩) q⟩
theorem gn_mono {i : Nat} : ∀ x σ H (A B : L2.St → Hp → Prop), (∀ σ H, A σ H → B σ H) → gName i x σ H A → gName i x σ H B := fun _ _ _ _ _ h z => h _ _ z
end
end Sb
set_option Elab.async false
set_option linter.all false
set_option maxRecDepth 100000
set_option maxHeartbeats 2000000
/-! Sn: numerical semigroups, with no program in sight: members, least members of rests, how they are found. -/
namespace Sb
/-- a sum of these -/
inductive Mem (ns : List Int) : Int → Prop
  | zero : Mem ns 0
  | add {n g : Int} : Mem ns n → g ∈ ns → Mem ns (n + g)
structure Gn (ns : List Int) : Prop where
  pos : ∀ x ∈ ns, 1 ≤ x ∧ x ≤ 200
  ne : ns ≠ []
  one : ∀ d : Int, 2 ≤ d → ¬ ∀ x ∈ ns, d ∣ x
structure IsLeast (ns : List Int) (m : Int) (f : Int → Int) : Prop where
  mem : ∀ r, 0 ≤ r → r < m → Mem ns (f r) ∧ f r % m = r
  low : ∀ n, Mem ns n → f (n % m) ≤ n
  bnd : ∀ r, 0 ≤ r → r < m → f r ≤ 200 * m
def tab (m : Int) (f : Int → Int) : List Int := (List.range m.toNat).map fun i : Nat => f (i : Int)
theorem IsLeast.same {ns : List Int} {m : Int} {f f' : Int → Int} (a : IsLeast ns m f) (b : IsLeast ns m f') (r : Int) (h0 : 0 ≤ r) (h1 : r < m) : f r = f' r := by
  have x1 := b.low _ (a.mem r h0 h1).1
  have x2 := a.low _ (b.mem r h0 h1).1
  rw [(a.mem r h0 h1).2] at x1
  rw [(b.mem r h0 h1).2] at x2
  omega
theorem tab_same {m : Int} {f f' : Int → Int} (h : ∀ r, 0 ≤ r → r < m → f r = f' r) : tab m f = tab m f' := by
  unfold tab
  apply List.map_congr_left
  intro i hi
  have := List.mem_range.mp hi
  exact h _ (by omega) (by omega)
theorem IsLeast.tab {ns : List Int} {m : Int} {f f' : Int → Int} (a : IsLeast ns m f) (b : IsLeast ns m f') : tab m f = tab m f' := tab_same (a.same b)
theorem Mem.nonneg {ns : List Int} (h : ∀ x ∈ ns, 1 ≤ x ∧ x ≤ 200) {n : Int} (m : Mem ns n) : 0 ≤ n := by
  induction m with
  | zero => exact Int.le_refl _
  | add _ hg ih => have := h _ hg; omega
theorem emod_add_l (a b m : Int) : (a % m + b) % m = (a + b) % m := by rw [Int.emod_add_emod]
/-- closed under the steps: low -/
theorem low_of {ns : List Int} {m : Int} {f : Int → Int} (hm : 0 < m) (h0 : f 0 ≤ 0) (cl : ∀ r, 0 ≤ r → r < m → ∀ g ∈ ns, f ((r + g) % m) ≤ f r + g) : ∀ n, Mem ns n → f (n % m) ≤ n := by
  intro n h
  induction h with
  | zero => rw [Int.zero_emod]; exact h0
  | @add n g _ hg ih =>
    have := cl (n % m) (Int.emod_nonneg _ (by omega)) (Int.emod_lt_of_pos _ hm) g hg
    rw [emod_add_l] at this
    omega

/-! ### all rests are reached -/
section
variable {R : Int → Prop}
def Sh (R : Int → Prop) (d : Int) : Prop := ∀ n, R n ↔ R (n + d)
theorem Sh.neg {d : Int} (h : Sh R d) : Sh R (-d) := fun n => by
  have := h (n + -d)
  rw [show n + -d + d = n by omega] at this
  exact this.symm
theorem Sh.add {d e : Int} (h : Sh R d) (h' : Sh R e) : Sh R (d + e) := fun n => by
  rw [h n, h' (n + d), Int.add_assoc]
theorem Sh.zero : Sh R 0 := fun n => by rw [Int.add_zero]
theorem Sh.nmul {d : Int} (h : Sh R d) : ∀ k : Nat, Sh R (k * d)
  | 0 => by simpa using Sh.zero
  | k + 1 => by
    have := (Sh.nmul h k).add h
    rw [show ((k + 1 : Nat) : Int) * d = k * d + d by rw [Int.natCast_add, Int.add_mul]; simp]
    exact this
theorem Sh.mul {d : Int} (h : Sh R d) (k : Int) : Sh R (k * d) := by
  cases k with
  | ofNat n => exact h.nmul n
  | negSucc n =>
    have := (h.nmul (n + 1)).neg
    rw [show Int.negSucc n * d = -(((n + 1 : Nat) : Int) * d) by rw [← Int.neg_mul]; rfl]
    exact this
theorem Sh.gcd : ∀ (a b : Nat), Sh R a → Sh R b → Sh R (Nat.gcd a b) := by
  intro a b
  induction a, b using Nat.gcd.induction with
  | H0 n => intro _ h; rw [Nat.gcd_zero_left]; exact h
  | H1 m n hm ih =>
    intro h h'
    rw [Nat.gcd_rec]
    refine ih ?_ h
    have e : ((n % m : Nat) : Int) = n + (-((n / m : Nat) : Int)) * m := by
      have := Nat.div_add_mod n m
      have e2 : ((m * (n / m) + n % m : Nat) : Int) = (n : Int) := by rw [this]
      rw [Int.natCast_add, Int.natCast_mul] at e2
      rw [Int.neg_mul, Int.mul_comm ((n / m : Nat) : Int)]
      omega
    rw [e]
    exact h'.add (h.mul _)
end
/-- the greatest one that divides all -/
def gcdL (ns : List Int) : Nat := ns.foldl (fun g x => Nat.gcd g x.natAbs) 0
theorem gcd_fold_sh {R : Int → Prop} : ∀ (ns : List Int) (g : Nat), Sh R g → (∀ x ∈ ns, Sh R x) → Sh R (ns.foldl (fun g x => Nat.gcd g x.natAbs) g : Nat)
  | [], g, h, _ => h
  | x :: r, g, h, h' => by
    refine gcd_fold_sh r _ (Sh.gcd g x.natAbs h ?_) fun y hy => h' y (List.mem_cons_of_mem _ hy)
    have hx := h' x List.mem_cons_self
    rcases Int.natAbs_eq x with e | e
    · rw [← e]; exact hx
    · have := hx.neg
      rw [e] at this
      rw [Int.neg_neg] at this
      exact this
theorem gcd_fold_dvd : ∀ (ns : List Int) (g : Nat), (ns.foldl (fun g x => Nat.gcd g x.natAbs) g) ∣ g ∧ ∀ x ∈ ns, ((ns.foldl (fun g x => Nat.gcd g x.natAbs) g : Nat) : Int) ∣ x
  | [], g => ⟨Nat.dvd_refl _, fun x hx => absurd hx (by simp)⟩
  | x :: r, g => by
    obtain ⟨h1, h2⟩ := gcd_fold_dvd r (Nat.gcd g x.natAbs)
    refine ⟨Nat.dvd_trans h1 (Nat.gcd_dvd_left _ _), fun y hy => ?_⟩
    rcases List.mem_cons.mp hy with e | hy
    · rw [e]
      exact Int.ofNat_dvd_left.mpr (Nat.dvd_trans h1 (Nat.gcd_dvd_right _ _))
    · exact h2 y hy
theorem Gn.gcd {ns : List Int} (G : Gn ns) : gcdL ns = 1 := by
  obtain ⟨_, h⟩ := gcd_fold_dvd ns 0
  have h1 : ¬ 2 ≤ gcdL ns := fun z => G.one (gcdL ns : Nat) (by omega) h
  have h0 : gcdL ns ≠ 0 := fun z => by
    cases e : ns with
    | nil => exact G.ne e
    | cons x r =>
      have hx : x ∈ ns := by rw [e]; exact List.mem_cons_self
      have := h x hx
      have z' : ((ns.foldl (fun g x => Nat.gcd g x.natAbs) 0 : Nat) : Int) = 0 := by exact_mod_cast z
      rw [z'] at this
      have := Int.zero_dvd.mp this
      have := G.pos x hx
      omega
  omega
theorem Gn.of_gcd {ns : List Int} (pos : ∀ x ∈ ns, 1 ≤ x ∧ x ≤ 200) (ne : ns ≠ []) (h : gcdL ns = 1) : Gn ns := ⟨pos, ne, fun d hd z => by
  have key : ∀ (ns : List Int) (g : Nat), d ∣ (g : Int) → (∀ x ∈ ns, d ∣ x) → d ∣ ((ns.foldl (fun g x => Nat.gcd g x.natAbs) g : Nat) : Int) := by
    intro ns
    induction ns with
    | nil => intro g h _; exact h
    | cons x r ih =>
      intro g hg hx
      refine ih _ ?_ fun y hy => hx y (List.mem_cons_of_mem _ hy)
      have a1 : d.natAbs ∣ g := Int.natAbs_dvd_natAbs.mpr hg
      have a2 : d.natAbs ∣ x.natAbs := Int.natAbs_dvd_natAbs.mpr (hx x List.mem_cons_self)
      exact Int.natAbs_dvd.mp (Int.ofNat_dvd.mpr (Nat.dvd_gcd a1 a2))
  have := key ns 0 ⟨0, by simp⟩ z
  have e : ns.foldl (fun g x => Nat.gcd g x.natAbs) 0 = 1 := h
  rw [e] at this
  have := Int.le_of_dvd (by decide) this
  omega⟩
/-- a set of rests with 0, closed under the steps, is full -/
theorem full {ns : List Int} (G : Gn ns) {m : Int} (hm : 0 < m) {S : Int → Prop} (h0 : S 0) (cl : ∀ r, 0 ≤ r → r < m → S r → ∀ g ∈ ns, S ((r + g) % m)) : ∀ r, 0 ≤ r → r < m → S r := by
  have per : Sh (fun n => S (n % m)) m := fun n => by
    show S (n % m) ↔ S ((n + m) % m)
    rw [Int.add_emod_right]
  have step : ∀ g ∈ ns, ∀ n, S (n % m) → S ((n + g) % m) := fun g hg n h => by
    have := cl (n % m) (Int.emod_nonneg _ (by omega)) (Int.emod_lt_of_pos _ hm) h g hg
    rwa [emod_add_l] at this
  have stepn : ∀ g ∈ ns, ∀ (k : Nat) n, S (n % m) → S ((n + k * g) % m) := fun g hg k => by
    induction k with
    | zero => intro n h; simpa using h
    | succ k ih =>
      intro n h
      have := step g hg _ (ih n h)
      rw [show n + ((k + 1 : Nat) : Int) * g = n + k * g + g by rw [Int.natCast_add, Int.add_mul]; simp; omega]
      exact this
  have sh : ∀ g ∈ ns, Sh (fun n => S (n % m)) g := fun g hg n => ⟨fun h => step g hg n h, fun h => by
    have h1 := stepn g hg (m.toNat - 1) _ h
    have e : n + g + ((m.toNat - 1 : Nat) : Int) * g = n + g * m := by
      have : ((m.toNat - 1 : Nat) : Int) = m - 1 := by omega
      rw [this, Int.sub_mul, Int.mul_comm m g]
      omega
    rw [e, Int.add_mul_emod_self_right] at h1
    exact h1⟩
  have one := gcd_fold_sh ns 0 (by simpa using Sh.zero) sh
  have e : ns.foldl (fun g x => Nat.gcd g x.natAbs) 0 = 1 := G.gcd
  rw [e] at one
  intro r hr hm'
  have := (one.mul r 0).mp (by show S (0 % m); rw [Int.zero_emod]; exact h0)
  have e2 : (0 + r * ((1 : Nat) : Int)) = r := by simp
  rw [e2] at this
  have : S (r % m) := this
  rwa [Int.emod_eq_of_lt hr hm'] at this

/-! ### the least ones, nearest first -/
structure DJ (ns : List Int) (m : Int) (ks : List Int) (f : Int → Int) (ds : List Int) : Prop where
  nd : ks.Nodup
  rng : ∀ k ∈ ks, 0 ≤ k ∧ k < m
  zero : 0 ∈ ks ∧ f 0 = 0
  mem : ∀ k ∈ ks, Mem ns (f k) ∧ f k % m = k
  sub : ∀ d ∈ ds, d ∈ ks
  dnd : ds.Nodup
  bnd : ∀ k ∈ ks, f k ≤ 200 * ds.length
  ord : ∀ d ∈ ds, ∀ k ∈ ks, k ∉ ds → f d ≤ f k
  cl : ∀ d ∈ ds, ∀ g ∈ ns, (d + g) % m ∈ ks ∧ f ((d + g) % m) ≤ f d + g
structure DI (ns : List Int) (m : Int) (ks : List Int) (f : Int → Int) (ds : List Int) (h : Int) (i : Nat) : Prop where
  nd : ks.Nodup
  rng : ∀ k ∈ ks, 0 ≤ k ∧ k < m
  zero : 0 ∈ ks ∧ f 0 = 0
  mem : ∀ k ∈ ks, Mem ns (f k) ∧ f k % m = k
  hk : h ∈ ks
  hd : h ∉ ds
  sub : ∀ d ∈ ds, d ∈ ks
  dnd : ds.Nodup
  bnd : ∀ k ∈ ks, f k ≤ 200 * (ds.length + 1)
  hb : f h ≤ 200 * ds.length
  lo : ∀ d ∈ ds, f d ≤ f h
  hi : ∀ k ∈ ks, k ∉ ds → f h ≤ f k
  cl : ∀ d ∈ ds, ∀ g ∈ ns, (d + g) % m ∈ ks ∧ f ((d + g) % m) ≤ f d + g
  clh : ∀ g ∈ ns.take i, (h + g) % m ∈ ks ∧ f ((h + g) % m) ≤ f h + g
section
variable {ns : List Int} {m : Int} {ks : List Int} {f : Int → Int} {ds : List Int} {h : Int} {i : Nat}
theorem dj_start (hm : 1 ≤ m) : DJ ns m [0] (fun _ => 0) [] where
  nd := by simp
  rng := fun k hk => by have := List.mem_singleton.mp hk; omega
  zero := ⟨List.mem_cons_self, rfl⟩
  mem := fun k hk => by
    rw [List.mem_singleton.mp hk]
    exact ⟨.zero, Int.zero_emod _⟩
  sub := fun d hd => absurd hd (by simp)
  dnd := List.nodup_nil
  bnd := fun k hk => by show (0 : Int) ≤ 200 * ((0 : Nat) : Int); omega
  ord := fun d hd => absurd hd (by simp)
  cl := fun d hd => absurd hd (by simp)
theorem di_start (J : DJ ns m ks f ds) (hk : h ∈ ks) (hd : h ∉ ds) (hi : ∀ k ∈ ks, k ∉ ds → f h ≤ f k) : DI ns m ks f ds h 0 where
  nd := J.nd
  rng := J.rng
  zero := J.zero
  mem := J.mem
  hk := hk
  hd := hd
  sub := J.sub
  dnd := J.dnd
  bnd := fun k z => by have := J.bnd k z; omega
  hb := J.bnd h hk
  lo := fun d z => J.ord d z h hk hd
  hi := hi
  cl := J.cl
  clh := fun g hg => absurd hg (by simp)
theorem di_skip (I : DI ns m ks f ds h i) {g : Int} (hg : ns[i]? = some g) (ht : (h + g) % m ∈ ks) (hl : f ((h + g) % m) ≤ f h + g) : DI ns m ks f ds h (i + 1) :=
  ⟨I.nd, I.rng, I.zero, I.mem, I.hk, I.hd, I.sub, I.dnd, I.bnd, I.hb, I.lo, I.hi, I.cl, fun x hx => by
    rw [List.take_add_one, hg] at hx
    rcases List.mem_append.mp hx with hx | hx
    · exact I.clh x hx
    · rw [List.mem_singleton.mp hx]
      exact ⟨ht, hl⟩⟩
theorem di_put (I : DI ns m ks f ds h i) (hm : 0 < m) (pos : ∀ x ∈ ns, 1 ≤ x ∧ x ≤ 200) {g : Int} (hg : ns[i]? = some g) (hl : (h + g) % m ∉ ks ∨ f h + g < f ((h + g) % m)) :
    DI ns m (if (h + g) % m ∈ ks then ks else ks ++ [(h + g) % m]) (fun j => if j = (h + g) % m then f h + g else f j) ds h (i + 1) := by
  have hgn : g ∈ ns := List.mem_of_getElem? hg
  have hp := pos g hgn
  have m0 := Int.emod_nonneg (h + g) (show m ≠ 0 by omega)
  have m1 := Int.emod_lt_of_pos (h + g) hm
  generalize ht : (h + g) % m = t at *
  have inn : ∀ k, k ∈ (if t ∈ ks then ks else ks ++ [t]) ↔ k ∈ ks ∨ k = t := fun k => by
    by_cases e : t ∈ ks
    · rw [if_pos e]
      exact ⟨.inl, fun z => z.elim id fun z => z ▸ e⟩
    · rw [if_neg e]
      simp
  have old : ∀ d ∈ ds, d ≠ t := fun d hd e => by
    rcases hl with hl | hl
    · exact hl (e ▸ I.sub d hd)
    · have := I.lo d hd
      rw [← e] at hl
      omega
  have hne : h ≠ t := fun e => by
    rcases hl with hl | hl
    · exact hl (e ▸ I.hk)
    · rw [← e] at hl
      omega
  have le : ∀ k ∈ ks, (if k = t then f h + g else f k) ≤ f k := fun k hk => by
    by_cases e : k = t
    · rw [if_pos e]
      rcases hl with hl | hl
      · exact absurd (e ▸ hk) hl
      · rw [e]; omega
    · rw [if_neg e]
      exact Int.le_refl _
  have fh : (if h = t then f h + g else f h) = f h := if_neg hne
  constructor
  · by_cases e : t ∈ ks
    · rw [if_pos e]; exact I.nd
    · rw [if_neg e]
      refine List.nodup_append.mpr ⟨I.nd, by simp, fun a ha b hb => ?_⟩
      rw [List.mem_singleton.mp hb]
      exact fun z => e (z ▸ ha)
  · intro k hk
    rcases (inn k).mp hk with z | z
    · exact I.rng k z
    · rw [z]; exact ⟨m0, m1⟩
  · refine ⟨(inn 0).mpr (.inl I.zero.1), ?_⟩
    by_cases e : (0 : Int) = t
    · exfalso
      rcases hl with hl | hl
      · exact hl (e ▸ I.zero.1)
      · rw [← e, I.zero.2] at hl
        have := (I.mem h I.hk).1.nonneg pos
        omega
    · exact (if_neg e).trans I.zero.2
  · intro k hk
    show Mem ns (if k = t then f h + g else f k) ∧ (if k = t then f h + g else f k) % m = k
    by_cases e : k = t
    · rw [if_pos e]
      refine ⟨(I.mem h I.hk).1.add hgn, ?_⟩
      rw [← emod_add_l, (I.mem h I.hk).2, ht, e]
    · rw [if_neg e]
      exact I.mem k (((inn k).mp hk).resolve_right e)
  · exact (inn h).mpr (.inl I.hk)
  · exact I.hd
  · exact fun d hd => (inn d).mpr (.inl (I.sub d hd))
  · exact I.dnd
  · intro k hk
    show (if k = t then f h + g else f k) ≤ _
    by_cases e : k = t
    · rw [if_pos e]
      have := I.hb
      omega
    · rw [if_neg e]
      exact I.bnd k (((inn k).mp hk).resolve_right e)
  · show (if h = t then f h + g else f h) ≤ _
    rw [fh]
    exact I.hb
  · intro d hd
    show (if d = t then f h + g else f d) ≤ (if h = t then f h + g else f h)
    rw [fh, if_neg (old d hd)]
    exact I.lo d hd
  · intro k hk hn
    show (if h = t then f h + g else f h) ≤ (if k = t then f h + g else f k)
    rw [fh]
    by_cases e : k = t
    · rw [if_pos e]
      omega
    · rw [if_neg e]
      exact I.hi k (((inn k).mp hk).resolve_right e) hn
  · intro d hd x hx
    obtain ⟨a, b⟩ := I.cl d hd x hx
    refine ⟨(inn _).mpr (.inl a), ?_⟩
    show (if (d + x) % m = t then f h + g else f ((d + x) % m)) ≤ (if d = t then f h + g else f d) + x
    rw [if_neg (old d hd)]
    exact Int.le_trans (le _ a) b
  · intro x hx
    show (h + x) % m ∈ _ ∧ (if (h + x) % m = t then f h + g else f ((h + x) % m)) ≤ (if h = t then f h + g else f h) + x
    rw [fh]
    rw [List.take_add_one, hg] at hx
    rcases List.mem_append.mp hx with hx | hx
    · obtain ⟨a, b⟩ := I.clh x hx
      exact ⟨(inn _).mpr (.inl a), Int.le_trans (le _ a) b⟩
    · rw [List.mem_singleton.mp hx, ht, if_pos rfl]
      exact ⟨(inn _).mpr (.inr rfl), Int.le_refl _⟩
theorem di_end (I : DI ns m ks f ds h ns.length) : DJ ns m ks f (ds ++ [h]) where
  nd := I.nd
  rng := I.rng
  zero := I.zero
  mem := I.mem
  sub := fun d hd => by
    rcases List.mem_append.mp hd with z | z
    · exact I.sub d z
    · rw [List.mem_singleton.mp z]; exact I.hk
  dnd := List.nodup_append.mpr ⟨I.dnd, by simp, fun a ha b hb => by
    rw [List.mem_singleton.mp hb]
    exact fun z => I.hd (z ▸ ha)⟩
  bnd := fun k hk => by
    have := I.bnd k hk
    rw [List.length_append, List.length_singleton]
    omega
  ord := fun d hd k hk hn => by
    have h1 := I.hi k hk fun z => hn (List.mem_append_left _ z)
    rcases List.mem_append.mp hd with z | z
    · have := I.lo d z
      omega
    · rw [List.mem_singleton.mp z]; exact h1
  cl := fun d hd g hg => by
    rcases List.mem_append.mp hd with z | z
    · exact I.cl d z g hg
    · rw [List.mem_singleton.mp z]
      exact I.clh g (by rw [List.take_length]; exact hg)
theorem rng_len (hn : ks.Nodup) (hr : ∀ k ∈ ks, 0 ≤ k ∧ k < m) : ks.length ≤ m.toNat := by
  have := hn.length_le_of_subset (l₂ := (List.range m.toNat).map fun i : Nat => (i : Int)) fun k hk => by
    obtain ⟨a, b⟩ := hr k hk
    exact List.mem_map.mpr ⟨k.toNat, List.mem_range.mpr (by omega), by omega⟩
  rwa [List.length_map, List.length_range] at this
theorem dj_done (G : Gn ns) (hm : 0 < m) (J : DJ ns m ks f ds) (all : ∀ k ∈ ks, k ∈ ds) : IsLeast ns m f ∧ ∀ r, 0 ≤ r → r < m → r ∈ ks := by
  have fl : ∀ r, 0 ≤ r → r < m → r ∈ ks := full G hm J.zero.1 fun r _ _ hr g hg => (J.cl r (all r hr) g hg).1
  refine ⟨⟨fun r a b => J.mem r (fl r a b), low_of hm (Int.le_of_eq J.zero.2) fun r a b g hg => (J.cl r (all r (fl r a b)) g hg).2, fun r a b => ?_⟩, fl⟩
  have h1 := J.bnd r (fl r a b)
  have h2 := rng_len J.dnd fun k hk => J.rng k (J.sub k hk)
  omega
end
end Sb
set_option Elab.async false
set_option linter.all false
set_option maxRecDepth 100000
set_option maxHeartbeats 2000000
/-! Sn2: minimal generators by sums, gaps by least members; what is found is one and the same. -/
namespace Sb
theorem mem_snoc {k : List Int} {s n : Int} : Mem (k ++ [s]) n ↔ Mem k n ∨ Mem (k ++ [s]) (n - s) := by
  constructor
  · intro h
    induction h with
    | zero => exact .inl .zero
    | @add n g hn hg ih =>
      rcases List.mem_append.mp hg with z | z
      · rcases ih with ih | ih
        · exact .inl (ih.add z)
        · right
          rw [show n + g - s = n - s + g by omega]
          exact ih.add hg
      · rw [List.mem_singleton.mp z]
        right
        rw [show n + s - s = n by omega]
        exact hn
  · intro h
    rcases h with h | h
    · induction h with
      | zero => exact .zero
      | add _ hg ih => exact ih.add (List.mem_append_left _ hg)
    · have := h.add (g := s) (List.mem_append_right _ List.mem_cons_self)
      rwa [show n - s + s = n by omega] at this
theorem mem_step {k : List Int} {n : Int} (h0 : n ≠ 0) : Mem k n ↔ ∃ y ∈ k, Mem k (n - y) := by
  constructor
  · intro h
    cases h with
    | zero => exact absurd rfl h0
    | @add n g hn hg => exact ⟨g, hg, by rw [show n + g - g = n by omega]; exact hn⟩
  · rintro ⟨y, hy, h⟩
    have := h.add hy
    rwa [show n - y + y = n by omega] at this
theorem mem_nil {n : Int} : Mem [] n ↔ n = 0 := by
  constructor
  · intro h
    cases h with
    | zero => rfl
    | add _ hg => cases hg
  · rintro rfl
    exact .zero
open Classical in
noncomputable def minStep (k : List Int) (x : Int) : List Int := if Mem k x then k else k ++ [x]
noncomputable def minF (ns : List Int) : List Int := ns.foldl minStep []
theorem minF_snoc {ns : List Int} {x : Int} : minF (ns ++ [x]) = minStep (minF ns) x := by
  unfold minF
  rw [List.foldl_append]
  rfl
theorem minStep_yes {k : List Int} {x : Int} (h : Mem k x) : minStep k x = k := if_pos h
theorem minStep_no {k : List Int} {x : Int} (h : ¬ Mem k x) : minStep k x = k ++ [x] := if_neg h
theorem minF_sub_aux : ∀ (ns : List Int) (k : List Int) (x : Int), x ∈ ns.foldl minStep k → x ∈ k ∨ x ∈ ns
  | [], k, x, h => .inl h
  | y :: r, k, x, h => by
    rcases minF_sub_aux r (minStep k y) x h with z | z
    · unfold minStep at z
      split at z
      · exact .inl z
      · rcases List.mem_append.mp z with z | z
        · exact .inl z
        · rw [List.mem_singleton.mp z]
          exact .inr List.mem_cons_self
    · exact .inr (List.mem_cons_of_mem _ z)
theorem minF_sub {ns : List Int} {x : Int} (h : x ∈ minF ns) : x ∈ ns := (minF_sub_aux ns [] x h).resolve_left (by simp)
theorem minF_len_aux : ∀ (ns : List Int) (k : List Int), (ns.foldl minStep k).length ≤ k.length + ns.length
  | [], k => Nat.le_refl _
  | y :: r, k => by
    have := minF_len_aux r (minStep k y)
    rw [List.length_cons]
    have h2 : (minStep k y).length ≤ k.length + 1 := by
      unfold minStep
      split
      · omega
      · rw [List.length_append, List.length_singleton]; omega
    show (r.foldl minStep (minStep k y)).length ≤ _
    omega
theorem minF_len {ns : List Int} : (minF ns).length ≤ ns.length := by
  have := minF_len_aux ns []
  rw [List.length_nil, Nat.zero_add] at this
  exact this
/-- ascending, the same ones -/
structure Asc (ns' ns : List Int) : Prop where
  lt : ns'.Pairwise (· < ·)
  mem : ∀ k, k ∈ ns' ↔ k ∈ ns
theorem asc_uniq : ∀ {a b : List Int}, a.Pairwise (· < ·) → b.Pairwise (· < ·) → (∀ k, k ∈ a ↔ k ∈ b) → a = b
  | [], [], _, _, _ => rfl
  | [], y :: _, _, _, h => absurd ((h y).mpr List.mem_cons_self) (by simp)
  | x :: _, [], _, _, h => absurd ((h x).mp List.mem_cons_self) (by simp)
  | x :: a, y :: b, ha, hb, h => by
    obtain ⟨a1, a2⟩ := List.pairwise_cons.mp ha
    obtain ⟨b1, b2⟩ := List.pairwise_cons.mp hb
    have e : x = y := by
      rcases List.mem_cons.mp ((h x).mp List.mem_cons_self) with z | z
      · exact z
      · rcases List.mem_cons.mp ((h y).mpr List.mem_cons_self) with u | u
        · exact u.symm
        · have := a1 y u
          have := b1 x z
          omega
    subst e
    rw [asc_uniq a2 b2 fun k => ?_]
    constructor
    · intro hk
      rcases List.mem_cons.mp ((h k).mp (List.mem_cons_of_mem _ hk)) with z | z
      · have := a1 k hk
        omega
      · exact z
    · intro hk
      rcases List.mem_cons.mp ((h k).mpr (List.mem_cons_of_mem _ hk)) with z | z
      · have := b1 k hk
        omega
      · exact z
theorem Asc.uniq {a b ns : List Int} (h : Asc a ns) (h' : Asc b ns) : a = b := asc_uniq h.lt h'.lt fun k => (h.mem k).trans (h'.mem k).symm
theorem Asc.perm {a ns ms : List Int} (h : Asc a ns) (p : ns.Perm ms) : Asc a ms := ⟨h.lt, fun k => (h.mem k).trans p.mem_iff⟩

/-! ### gaps -/
def gapN (m : Int) (f : Int → Int) (i : Nat) : Nat := ((f i - i) / m).toNat
def gapRaw (m : Int) (f : Int → Int) : List Int := (List.range m.toNat).flatMap fun i => (List.range (gapN m f i)).map fun j : Nat => (i : Int) + j * m
theorem IsLeast.ge {ns : List Int} {m : Int} {f : Int → Int} (L : IsLeast ns m f) (pos : ∀ x ∈ ns, 1 ≤ x ∧ x ≤ 200) (r : Int) (h0 : 0 ≤ r) (h1 : r < m) : r ≤ f r := by
  obtain ⟨a, b⟩ := L.mem r h0 h1
  have := a.nonneg pos
  have h2 := Int.emod_add_mul_ediv (f r) m
  have h3 : 0 ≤ f r / m := Int.ediv_nonneg this (by omega)
  have h4 : 0 ≤ m * (f r / m) := Int.mul_nonneg (by omega) h3
  omega
theorem gapN_eq {ns : List Int} {m : Int} {f : Int → Int} (L : IsLeast ns m f) (pos : ∀ x ∈ ns, 1 ≤ x ∧ x ≤ 200) (i : Nat) (h1 : (i : Int) < m) : f i = i + (gapN m f i : Int) * m := by
  obtain ⟨a, b⟩ := L.mem i (by omega) h1
  have hge := L.ge pos i (by omega) h1
  have e : (f i - i) / m * m = f i - i := by
    refine Int.ediv_mul_cancel ?_
    exact Int.dvd_of_emod_eq_zero (by rw [Int.sub_emod, b, Int.emod_eq_of_lt (by omega) h1]; simp)
  have h0 : 0 ≤ (f i - i) / m := Int.ediv_nonneg (by omega) (by omega)
  unfold gapN
  rw [Int.toNat_of_nonneg h0]
  omega
theorem gap_mem {ns : List Int} {m : Int} {f : Int → Int} (L : IsLeast ns m f) (pos : ∀ x ∈ ns, 1 ≤ x ∧ x ≤ 200) (hm : 0 < m) (x : Int) : x ∈ gapRaw m f ↔ 0 ≤ x ∧ x < f (x % m) := by
  unfold gapRaw
  rw [List.mem_flatMap]
  constructor
  · rintro ⟨i, hi, hx⟩
    obtain ⟨j, hj, rfl⟩ := List.mem_map.mp hx
    have hi' := List.mem_range.mp hi
    have hj' := List.mem_range.mp hj
    have h1 : (i : Int) < m := by omega
    have e := gapN_eq L pos i h1
    have h2 : 0 ≤ (j : Int) * m := Int.mul_nonneg (by omega) (by omega)
    have e2 : ((i : Int) + j * m) % m = i := by
      rw [Int.add_mul_emod_self_right, Int.emod_eq_of_lt (by omega) h1]
    rw [e2]
    refine ⟨by omega, ?_⟩
    have h3 : (j : Int) * m < (gapN m f i : Int) * m := Int.mul_lt_mul_of_pos_right (by omega) hm
    omega
  · rintro ⟨h0, hx⟩
    have r0 := Int.emod_nonneg x (show m ≠ 0 by omega)
    have r1 := Int.emod_lt_of_pos x hm
    refine ⟨(x % m).toNat, List.mem_range.mpr (by omega), List.mem_map.mpr ⟨(x / m).toNat, List.mem_range.mpr ?_, ?_⟩⟩
    · have e := gapN_eq L pos (x % m).toNat (by omega)
      rw [show (((x % m).toNat : Nat) : Int) = x % m by omega] at e
      have h2 := Int.emod_add_mul_ediv x m
      have d0 : 0 ≤ x / m := Int.ediv_nonneg h0 (by omega)
      rw [Int.mul_comm] at h2
      have : x / m * m < (gapN m f (x % m).toNat : Int) * m := by omega
      have := Int.lt_of_mul_lt_mul_right this (by omega)
      omega
    · have h2 := Int.emod_add_mul_ediv x m
      have d0 : 0 ≤ x / m := Int.ediv_nonneg h0 (by omega)
      rw [show (((x % m).toNat : Nat) : Int) = x % m by omega, show (((x / m).toNat : Nat) : Int) = x / m by omega, Int.mul_comm]
      exact h2
/-- m the least one, f the least members of its rests -/
structure Apy (ns : List Int) (m : Int) (f : Int → Int) : Prop where
  im : m ∈ ns
  lo : ∀ x ∈ ns, m ≤ x
  L : IsLeast ns m f
theorem Apy.uniq {ns : List Int} {m m' : Int} {f f' : Int → Int} (a : Apy ns m f) (b : Apy ns m' f') : m = m' ∧ tab m f = tab m' f' := by
  have h1 := a.lo _ b.im
  have h2 := b.lo _ a.im
  have e : m = m' := by omega
  subst e
  exact ⟨rfl, a.L.tab b.L⟩
theorem mem_perm {ns ms : List Int} (p : ns.Perm ms) {n : Int} (h : Mem ns n) : Mem ms n := by
  induction h with
  | zero => exact .zero
  | add _ hg ih => exact ih.add (p.mem_iff.mp hg)
theorem Apy.perm {ns ms : List Int} {m : Int} {f : Int → Int} (a : Apy ns m f) (p : ns.Perm ms) : Apy ms m f :=
  ⟨p.mem_iff.mp a.im, fun x hx => a.lo x (p.mem_iff.mpr hx), ⟨fun r h0 h1 => ⟨mem_perm p (a.L.mem r h0 h1).1, (a.L.mem r h0 h1).2⟩, fun n hn => a.L.low n (mem_perm p.symm hn), a.L.bnd⟩⟩
theorem Gn.perm {ns ms : List Int} (G : Gn ns) (p : ns.Perm ms) : Gn ms := ⟨fun x hx => G.pos x (p.mem_iff.mpr hx), fun e => G.ne (by rw [e] at p; exact p.eq_nil), fun d hd z => G.one d hd fun x hx => z x (p.mem_iff.mp hx)⟩
structure GapsOf (ns gs : List Int) : Prop where
  ex : ∃ m f, Apy ns m f ∧ gs.Perm (gapRaw m f) ∧ gs.Pairwise (· ≤ ·)
theorem gapRaw_same {m : Int} {f f' : Int → Int} (h : ∀ r, 0 ≤ r → r < m → f r = f' r) : gapRaw m f = gapRaw m f' := by
  have key : ∀ l : List Nat, (∀ i ∈ l, (i : Int) < m) → l.flatMap (fun i => (List.range (gapN m f i)).map fun j : Nat => (i : Int) + j * m) = l.flatMap (fun i => (List.range (gapN m f' i)).map fun j : Nat => (i : Int) + j * m) := by
    intro l
    induction l with
    | nil => intro _; rfl
    | cons i r ih =>
      intro hl
      rw [List.flatMap_cons, List.flatMap_cons, ih fun j hj => hl j (List.mem_cons_of_mem _ hj)]
      have e : gapN m f i = gapN m f' i := by
        unfold gapN
        rw [h i (by omega) (hl i List.mem_cons_self)]
      rw [e]
  exact key _ fun i hi => by
    have := List.mem_range.mp hi
    omega
theorem GapsOf.uniq {ns gs gs' : List Int} (a : GapsOf ns gs) (b : GapsOf ns gs') : gs = gs' := by
  obtain ⟨m, f, A, p, s⟩ := a.ex
  obtain ⟨m', f', A', p', s'⟩ := b.ex
  obtain ⟨rfl, _⟩ := A.uniq A'
  have e := gapRaw_same (A.L.same A'.L)
  rw [← e] at p'
  exact List.Perm.eq_of_pairwise (fun x y _ _ h1 h2 => by omega) s s' (p.trans p'.symm)
theorem GapsOf.perm {ns ms gs : List Int} (a : GapsOf ns gs) (p : ns.Perm ms) : GapsOf ms gs := by
  obtain ⟨m, f, A, h⟩ := a.ex
  exact ⟨m, f, A.perm p, h⟩
/-- the greatest gap, or -1 -/
structure FrobOf (ns : List Int) (n : Int) : Prop where
  ex : ∃ m f x, Apy ns m f ∧ x ∈ tab m f ∧ (∀ y ∈ tab m f, y ≤ x) ∧ n = x - m
theorem FrobOf.perm {ns ms : List Int} {n : Int} (a : FrobOf ns n) (p : ns.Perm ms) : FrobOf ms n := by
  obtain ⟨m, f, x, A, h⟩ := a.ex
  exact ⟨m, f, x, A.perm p, h⟩
theorem FrobOf.uniq {ns : List Int} {n n' : Int} (a : FrobOf ns n) (b : FrobOf ns n') : n = n' := by
  obtain ⟨m, f, x, A, h1, h2, h3⟩ := a.ex
  obtain ⟨m', f', x', A', h1', h2', h3'⟩ := b.ex
  obtain ⟨rfl, e⟩ := A.uniq A'
  rw [← e] at h1' h2'
  have := h2 _ h1'
  have := h2' _ h1
  omega
theorem tab_mem {m : Int} {f : Int → Int} {x : Int} : x ∈ tab m f ↔ ∃ r, 0 ≤ r ∧ r < m ∧ x = f r := by
  unfold tab
  rw [List.mem_map]
  constructor
  · rintro ⟨i, hi, rfl⟩
    have := List.mem_range.mp hi
    exact ⟨i, by omega, by omega, rfl⟩
  · rintro ⟨r, h0, h1, rfl⟩
    exact ⟨r.toNat, List.mem_range.mpr (by omega), by rw [show ((r.toNat : Nat) : Int) = r by omega]⟩
/-- the last gap, or -1, is the greatest of the least ones less m -/
theorem frob_gaps {ns gs : List Int} {n : Int} (G : Gn ns) (a : GapsOf ns gs) (b : FrobOf ns n) : n = if gs = [] then -1 else gs.getLastD (-1) := by
  obtain ⟨m, f, A, p, s⟩ := a.ex
  obtain ⟨m', f', x, A', h1, h2, h3⟩ := b.ex
  obtain ⟨rfl, e⟩ := A.uniq A'
  rw [← e] at h1 h2
  have hm : 0 < m := by have := G.pos m A.im; omega
  have hg := gap_mem A.L G.pos hm
  obtain ⟨r, r0, r1, rx⟩ := tab_mem.mp h1
  have ge : ∀ k, 0 ≤ k → k < m → k ≤ f k := A.L.ge G.pos
  have mo := (A.L.mem r r0 r1).2
  by_cases h : gs = []
  · rw [if_pos h]
    have hn : ∀ y, y ∉ gapRaw m f := fun y hy => by
      have := p.mem_iff.mpr hy
      rw [h] at this
      cases this
    have z : ∀ k, 0 ≤ k → k < m → f k = k := fun k k0 k1 => by
      have h4 := ge k k0 k1
      have h5 := hn k
      rw [hg k] at h5
      rw [Int.emod_eq_of_lt k0 k1] at h5
      omega
    have h6 := h2 (m - 1) (tab_mem.mpr ⟨m - 1, by omega, by omega, (z _ (by omega) (by omega)).symm⟩)
    have h7 := z r r0 r1
    omega
  · rw [if_neg h]
    have hl := List.getLast_mem h
    have el : gs.getLastD (-1) = gs.getLast h := by
      rw [List.getLastD_eq_getLast?, List.getLast?_eq_some_getLast h]
      rfl
    rw [el]
    generalize hg' : gs.getLast h = l at *
    have l1 := (hg l).mp (p.mem_iff.mp hl)
    have top : ∀ y ∈ gs, y ≤ l := fun y hy => by
      rw [← hg']
      rcases List.mem_iff_getElem.mp hy with ⟨i, hi, rfl⟩
      rw [List.getLast_eq_getElem]
      by_cases hi2 : i = gs.length - 1
      · subst hi2; exact Int.le_refl _
      · exact List.pairwise_iff_getElem.mp s i (gs.length - 1) hi (by omega) (by omega)
    -- x - m is a gap
    have hx1 : l + m ≤ x := by
      have q0 := Int.emod_nonneg l (show m ≠ 0 by omega)
      have q1 := Int.emod_lt_of_pos l hm
      have h5 := h2 (f (l % m)) (tab_mem.mpr ⟨l % m, q0, q1, rfl⟩)
      have h6 := (A.L.mem _ q0 q1).2
      -- f (l % m) and l leave the same rest
      have h7 : m ∣ f (l % m) - l := Int.dvd_of_emod_eq_zero (by rw [Int.sub_emod, h6]; simp)
      obtain ⟨c, hc⟩ := h7
      have : 0 < c := by
        rcases Int.lt_or_le 0 c with z | z
        · exact z
        · have : m * c ≤ 0 := Int.mul_nonpos_of_nonneg_of_nonpos (by omega) z
          omega
      have : m * 1 ≤ m * c := Int.mul_le_mul_of_nonneg_left (by omega) (by omega)
      omega
    have hx2 : x - m ∈ gs := by
      refine p.mem_iff.mpr ((hg _).mpr ⟨by omega, ?_⟩)
      have : (x - m) % m = r := by
        rw [Int.sub_emod_right, rx]
        exact mo
      rw [this, ← rx]
      omega
    have := top _ hx2
    omega
end Sb
set_option Elab.async false
set_option linter.all false
set_option maxRecDepth 100000
set_option maxHeartbeats 2000000
/-! Sn3: least members of rests by steps until nothing changes. -/
namespace Sb
def cntF (fs : List (Option Int)) : Nat := (fs.filter Option.isSome).length
def wtF (B : Nat) : Option Int → Nat
  | none => B
  | some v => v.toNat
def muF (B : Nat) (fs : List (Option Int)) : Nat := (fs.map (wtF B)).sum
theorem cntF_le (fs : List (Option Int)) : cntF fs ≤ fs.length := List.length_filter_le _ _
theorem cnt_set_none : ∀ {fs : List (Option Int)} {a : Nat} {x : Int}, fs[a]? = some none → cntF (fs.set a (some x)) = cntF fs + 1
  | f :: r, 0, x, h => by
    have e := Option.some.inj h
    subst e
    simp [cntF]
  | f :: r, a + 1, x, h => by
    have ih := cnt_set_none (fs := r) (a := a) (x := x) h
    unfold cntF at ih ⊢
    rw [List.set_cons_succ]
    cases f with
    | none => simpa using ih
    | some y =>
      rw [List.filter_cons_of_pos rfl, List.filter_cons_of_pos rfl, List.length_cons, List.length_cons, ih]
theorem cnt_set_some : ∀ {fs : List (Option Int)} {a : Nat} {x u : Int}, fs[a]? = some (some u) → cntF (fs.set a (some x)) = cntF fs
  | f :: r, 0, x, u, h => by
    have e := Option.some.inj h
    subst e
    simp [cntF]
  | f :: r, a + 1, x, u, h => by
    have ih := cnt_set_some (fs := r) (a := a) (x := x) (u := u) h
    unfold cntF at ih ⊢
    rw [List.set_cons_succ]
    cases f with
    | none => simpa using ih
    | some y =>
      rw [List.filter_cons_of_pos rfl, List.filter_cons_of_pos rfl, List.length_cons, List.length_cons, ih]
theorem mu_set {B : Nat} : ∀ {fs : List (Option Int)} {a : Nat} {x : Int} {o : Option Int}, fs[a]? = some o → x.toNat < wtF B o → muF B (fs.set a (some x)) < muF B fs
  | f :: r, 0, x, o, h, hx => by
    have e := Option.some.inj h
    subst e
    unfold muF
    rw [List.set_cons_zero, List.map_cons, List.map_cons, List.sum_cons, List.sum_cons]
    show x.toNat + _ < _
    omega
  | f :: r, a + 1, x, o, h, hx => by
    have ih := mu_set (fs := r) (a := a) (x := x) (o := o) h hx
    unfold muF at ih ⊢
    rw [List.set_cons_succ, List.map_cons, List.map_cons, List.sum_cons, List.sum_cons]
    omega
structure BF (ns : List Int) (m : Int) (fs : List (Option Int)) : Prop where
  len : fs.length = m.toNat
  zero : fs[0]? = some (some 0)
  mem : ∀ (k : Nat) v, fs[k]? = some (some v) → Mem ns v ∧ v % m = k
  bnd : ∀ (k : Nat) v, fs[k]? = some (some v) → v ≤ 200 * cntF fs
/-- the step g from k leads to nothing better -/
def ClAt (m : Int) (fs : List (Option Int)) (k : Nat) (g : Int) : Prop := ∀ v, fs[k]? = some (some v) → ∃ u, fs[(((k : Int) + g) % m).toNat]? = some (some u) ∧ u ≤ v + g
def bigF (m : Int) : Nat := 200 * m.toNat + 1
theorem bf_start {ns : List Int} {m : Int} (hm : 1 ≤ m) : BF ns m ((List.replicate m.toNat none).set 0 (some 0)) := by
  have hl : (List.replicate m.toNat (none : Option Int)).length = m.toNat := List.length_replicate
  have key : ∀ (k : Nat) v, ((List.replicate m.toNat (none : Option Int)).set 0 (some 0))[k]? = some (some v) → k = 0 ∧ v = 0 := by
    intro k v h
    rw [List.getElem?_set] at h
    by_cases e : 0 = k
    · rw [if_pos e] at h
      split at h
      · exact ⟨e.symm, by simpa using h.symm⟩
      · cases h
    · rw [if_neg e, List.getElem?_replicate] at h
      split at h
      · cases h
      · cases h
  refine ⟨by rw [List.length_set, hl], ?_, ?_, ?_⟩
  · rw [List.getElem?_set_self (by omega)]
  · intro k v h
    obtain ⟨rfl, rfl⟩ := key k v h
    exact ⟨.zero, Int.zero_emod _⟩
  · intro k v h
    obtain ⟨rfl, rfl⟩ := key k v h
    omega
section
variable {ns : List Int} {m : Int} {fs : List (Option Int)}
theorem bf_put (F : BF ns m fs) (hm : 0 < m) (pos : ∀ x ∈ ns, 1 ≤ x ∧ x ≤ 200) {k : Nat} {v g : Int} (hv : fs[k]? = some (some v)) (hg : g ∈ ns) {o : Option Int} (ho : fs[((v + g) % m).toNat]? = some o) (hlt : ∀ u, o = some u → v + g < u) :
    BF ns m (fs.set ((v + g) % m).toNat (some (v + g))) ∧ muF (bigF m) (fs.set ((v + g) % m).toNat (some (v + g))) < muF (bigF m) fs := by
  have hp := pos g hg
  obtain ⟨mv, rv⟩ := F.mem k v hv
  have v0 := mv.nonneg pos
  have bv := F.bnd k v hv
  have a0 := Int.emod_nonneg (v + g) (show m ≠ 0 by omega)
  have a1 := Int.emod_lt_of_pos (v + g) hm
  generalize ha : ((v + g) % m).toNat = a at *
  have hcnt : v + g ≤ 200 * cntF (fs.set a (some (v + g))) ∧ cntF fs ≤ cntF (fs.set a (some (v + g))) := by
    cases o with
    | none =>
      rw [cnt_set_none ho]
      omega
    | some u =>
      rw [cnt_set_some ho]
      have h1 := hlt u rfl
      have h2 := F.bnd a u ho
      omega
  have hc2 : cntF (fs.set a (some (v + g))) ≤ m.toNat := by
    have h1 := cntF_le (fs.set a (some (v + g)))
    rw [List.length_set, F.len] at h1
    exact h1
  refine ⟨⟨by rw [List.length_set, F.len], ?_, ?_, ?_⟩, mu_set ho ?_⟩
  · rw [List.getElem?_set]
    by_cases e : a = 0
    · exfalso
      rw [e, F.zero] at ho
      have := hlt 0 (Option.some.inj ho).symm
      omega
    · rw [if_neg e]
      exact F.zero
  · intro j u h
    rw [List.getElem?_set] at h
    by_cases e : a = j
    · rw [if_pos e] at h
      split at h
      · have : v + g = u := by simpa using h
        subst this
        exact ⟨mv.add hg, by omega⟩
      · cases h
    · rw [if_neg e] at h
      exact F.mem j u h
  · intro j u h
    rw [List.getElem?_set] at h
    by_cases e : a = j
    · rw [if_pos e] at h
      split at h
      · have : v + g = u := by simpa using h
        omega
      · cases h
    · rw [if_neg e] at h
      have := F.bnd j u h
      omega
  · cases o with
    | none =>
      show (v + g).toNat < bigF m
      unfold bigF
      omega
    | some u =>
      show (v + g).toNat < u.toNat
      have := hlt u rfl
      omega
/-- a pass: at k, with i steps done -/
structure Pass (ns : List Int) (m : Int) (f0 fs : List (Option Int)) (fr : Bool) (k i : Nat) : Prop where
  F : BF ns m fs
  yes : fr = true → muF (bigF m) fs < muF (bigF m) f0
  no : fr = false → fs = f0 ∧ (∀ j, j < k → ∀ g ∈ ns, ClAt m fs j g) ∧ ∀ g ∈ ns.take i, ClAt m fs k g
variable {f0 : List (Option Int)} {fr : Bool} {k i : Nat}
theorem pass_start (F : BF ns m f0) : Pass ns m f0 f0 false 0 0 := ⟨F, (fun z => by cases z), fun _ => ⟨rfl, fun j hj => absurd hj (by omega), fun g hg => absurd hg (by simp)⟩⟩
theorem pass_row (p : Pass ns m f0 fs fr k ns.length) : Pass ns m f0 fs fr (k + 1) 0 := ⟨p.F, p.yes, fun e => by
  obtain ⟨a, b, c⟩ := p.no e
  refine ⟨a, fun j hj g hg => ?_, fun g hg => absurd hg (by simp)⟩
  by_cases h : j < k
  · exact b j h g hg
  · have e : j = k := by omega
    subst e
    exact c g (by rw [List.take_length]; exact hg)⟩
theorem pass_skip (p : Pass ns m f0 fs fr k i) {g : Int} (hg : ns[i]? = some g) (c : ClAt m fs k g) : Pass ns m f0 fs fr k (i + 1) := ⟨p.F, p.yes, fun e => by
  obtain ⟨a, b, d⟩ := p.no e
  refine ⟨a, b, fun x hx => ?_⟩
  rw [List.take_add_one, hg] at hx
  rcases List.mem_append.mp hx with hx | hx
  · exact d x hx
  · rw [List.mem_singleton.mp hx]
    exact c⟩
theorem pass_put (p : Pass ns m f0 fs fr k i) (hm : 0 < m) (pos : ∀ x ∈ ns, 1 ≤ x ∧ x ≤ 200) (le : muF (bigF m) fs ≤ muF (bigF m) f0) {v g : Int} (hv : fs[k]? = some (some v)) (hg : g ∈ ns) {o : Option Int} (ho : fs[((v + g) % m).toNat]? = some o) (hlt : ∀ u, o = some u → v + g < u) :
    Pass ns m f0 (fs.set ((v + g) % m).toNat (some (v + g))) true k (i + 1) := by
  obtain ⟨a, b⟩ := bf_put p.F hm pos hv hg ho hlt
  exact ⟨a, (fun _ => by omega), (fun z => by cases z)⟩
theorem pass_le (p : Pass ns m f0 fs fr k i) : muF (bigF m) fs ≤ muF (bigF m) f0 := by
  cases fr with
  | true => exact Nat.le_of_lt (p.yes rfl)
  | false => rw [(p.no rfl).1]; exact Nat.le_refl _
def finF (fs : List (Option Int)) : Int → Int := fun r => (fs.getD r.toNat none).getD 0
theorem bf_end (G : Gn ns) (hm : 0 < m) (F : BF ns m fs) (cl : ∀ j, j < m.toNat → ∀ g ∈ ns, ClAt m fs j g) : IsLeast ns m (finF fs) ∧ fs = (tab m (finF fs)).map some := by
  have fl : ∀ r, 0 ≤ r → r < m → ∃ v, fs[r.toNat]? = some (some v) := full G hm ⟨0, F.zero⟩ fun r h0 h1 ⟨v, hv⟩ g hg => by
    obtain ⟨u, hu, _⟩ := cl r.toNat (by omega) g hg v hv
    rw [show ((r.toNat : Nat) : Int) = r by omega] at hu
    exact ⟨u, hu⟩
  have val : ∀ r, 0 ≤ r → r < m → fs[r.toNat]? = some (some (finF fs r)) := fun r h0 h1 => by
    obtain ⟨v, hv⟩ := fl r h0 h1
    unfold finF
    rw [List.getD_eq_getElem?_getD, hv]
    rfl
  refine ⟨⟨fun r h0 h1 => ?_, low_of hm ?_ ?_, fun r h0 h1 => ?_⟩, ?_⟩
  · have := F.mem r.toNat _ (val r h0 h1)
    rw [show ((r.toNat : Nat) : Int) = r by omega] at this
    exact this
  · have h1 := val 0 (by omega) hm
    have h2 : fs[(0 : Int).toNat]? = some (some 0) := F.zero
    rw [h2] at h1
    have := Option.some.inj (Option.some.inj h1)
    omega
  · intro r h0 h1 g hg
    obtain ⟨u, hu, hl⟩ := cl r.toNat (by omega) g hg _ (val r h0 h1)
    rw [show ((r.toNat : Nat) : Int) = r by omega, val _ (Int.emod_nonneg _ (by omega)) (Int.emod_lt_of_pos _ hm)] at hu
    have := Option.some.inj (Option.some.inj hu)
    omega
  · have h1 := F.bnd r.toNat _ (val r h0 h1)
    have h2 := cntF_le fs
    rw [F.len] at h2
    omega
  · apply List.ext_getElem?
    intro i
    unfold tab
    rw [List.map_map, List.getElem?_map]
    by_cases hi : i < m.toNat
    · rw [List.getElem?_range hi]
      have := val (i : Int) (by omega) (by omega)
      rw [show ((i : Int)).toNat = i by omega] at this
      rw [this]
      rfl
    · rw [List.getElem?_eq_none (by rw [F.len]; omega), List.getElem?_eq_none (by rw [List.length_range]; omega)]
      rfl
end
end Sb
set_option Elab.async false
set_option linter.all false
set_option maxRecDepth 100000
set_option maxHeartbeats 4000000
namespace Sb
open PySem PySem.Spec PyProof.Rows L2
open C8 (fnScope_by)
local macro_rules | `(tactic| walk_at "st") => `(tactic| repeat (first
  | ((with_reducible refine' x_var ?hvar ?_); (case hvar => rfl)) | with_reducible refine x_c ?_ | with_reducible refine x_op ?_ | with_reducible refine x_un ?_ | with_reducible refine x_test ?_ | with_reducible refine x_tb ?_
  | with_reducible refine x_and ?_ | with_reducible refine x_or ?_ | with_reducible refine x_not ?_ | with_reducible refine x_andV ?_ | with_reducible refine x_orV ?_ | with_reducible refine x_notV ?_ | with_reducible refine x_if ?_
  | with_reducible refine x_nil ?_ | with_reducible refine x_cons ?_ | with_reducible refine x_cb ?_ | with_reducible refine x_call ?_ | with_reducible refine x_callS ?_ | with_reducible refine x_callKS ?_ | with_reducible refine x_chain ?_ | with_reducible refine x_sl ?_
  | with_reducible refine x_part ?_ | with_reducible refine x_nopart ?_ | with_reducible refine x_seq ?_ | with_reducible refine x_asg ?_ | with_reducible refine x_gn ?_ | with_reducible refine x_gsub ?_ | with_reducible refine x_par ?_ | with_reducible refine x_par3 ?_
  | with_reducible refine x_ret ?_ | with_reducible refine x_drop ?_ | with_reducible refine x_ifS ?_ | with_reducible refine x_next ?_ | with_reducible refine x_I0 ?_ | with_reducible refine x_U ?_ | with_reducible refine x_eqI ?_
  | with_reducible refine x_eqS ?_ | with_reducible refine x_bm ?_ | with_reducible refine x_tup ?_ | with_reducible refine x_lst ?_ | with_reducible refine x_lstRg ?_ | with_reducible refine x_rg1 ?_ | with_reducible refine x_rg2 ?_
  | with_reducible refine x_forL ?_ | with_reducible refine x_forS ?_ | with_reducible refine x_forT ?_ | with_reducible refine x_forR1 ?_ | with_reducible refine x_forR2 ?_ | with_reducible refine x_lcL ?_ | with_reducible refine x_lcS ?_ | with_reducible refine x_lcR1 ?_ | with_reducible refine x_lcR2 ?_
  | with_reducible refine iteF ?_ | with_reducible refine iteT ?_ | with_reducible refine iteNF ?_ | with_reducible refine iteNT ?_ | with_reducible refine ⟨_, rfl, ?_⟩ | with_reducible refine ⟨_, _, rfl, ?_⟩ | with_reducible refine ⟨_, _, rfl, rfl, ?_⟩))

def topS (i : Nat) : Stmt := PySem.Challenge.pw_semigroupbench_k60_members_and_gaps.main.body.getD i (.Pass ⟨0, 0, 0, 0⟩)
/-- built-in names that the text leaves alone -/
structure Bi (mg : Str → Option Value) : Prop where
  m_abs : mg "abs" = none
  m_all : mg "all" = none
  m_any : mg "any" = none
  m_bool : mg "bool" = none
  m_dict : mg "dict" = none
  m_enumerate : mg "enumerate" = none
  m_int : mg "int" = none
  m_isinstance : mg "isinstance" = none
  m_len : mg "len" = none
  m_list : mg "list" = none
  m_max : mg "max" = none
  m_min : mg "min" = none
  m_range : mg "range" = none
  m_set : mg "set" = none
  m_sorted : mg "sorted" = none
  m_str : mg "str" = none
  m_sum : mg "sum" = none
  m_tuple : mg "tuple" = none
  m_zip : mg "zip" = none
theorem boot_isinstance : bootBuiltins "isinstance" = some (.builtin "isinstance") := by decide +kernel
theorem boot_int : bootBuiltins "int" = some (.type "int") := by decide +kernel
theorem boot_bool : bootBuiltins "bool" = some (.type "bool") := by decide +kernel
theorem boot_list : bootBuiltins "list" = some (.type "list") := by decide +kernel
theorem boot_tuple : bootBuiltins "tuple" = some (.type "tuple") := by decide +kernel
theorem boot_str : bootBuiltins "str" = some (.type "str") := by decide +kernel
theorem boot_dict : bootBuiltins "dict" = some (.type "dict") := by decide +kernel
theorem boot_set : bootBuiltins "set" = some (.type "set") := by decide +kernel
theorem boot_abs : bootBuiltins "abs" = some (.builtin "abs") := by decide +kernel
theorem boot_all : bootBuiltins "all" = some (.builtin "all") := by decide +kernel
theorem boot_any : bootBuiltins "any" = some (.builtin "any") := by decide +kernel
theorem boot_len : bootBuiltins "len" = some (.builtin "len") := by decide +kernel
theorem boot_max : bootBuiltins "max" = some (.builtin "max") := by decide +kernel
theorem boot_min : bootBuiltins "min" = some (.builtin "min") := by decide +kernel
theorem boot_sorted : bootBuiltins "sorted" = some (.builtin "sorted") := by decide +kernel
theorem boot_sum : bootBuiltins "sum" = some (.builtin "sum") := by decide +kernel

/-! ### shapes -/
section
variable {P : Program} {w : World} {K : PySem.W.Frag} {mg : Str → Option Value} {base : Heap}
abbrev s_is_integer : Stmt := topS 6
theorem sc_is_integer : FnScope ["value"] ["value"] (defScope s_is_integer) := fnScope_by (by decide +kernel)
theorem bi_is_integer : BindsBy "is_integer" s_is_integer ["value"] := fun _ _ _ _ _ _ us hl => match us, hl with | [_], _ => rfl
def isI (d : PyData) : Bool := isD "int" d && !isD "bool" d
abbrev sp_is_integer (K : PySem.W.Frag) : Sp := SpG (γ := V × PyData) (fun _ => 0) (fun g w vs => vs = [g.1] ∧ Dat K w.k g.1 g.2) (fun g w r u => r = .bl (isI g.2))
theorem c_is_integer (D : Df K mg "is_integer" s_is_integer) (T : Bi mg) : Cal P w K mg base CX0 1 "is_integer" ["value"] (sp_is_integer K) := by
  have sc := sc_is_integer
  refine D.cal sc bi_is_integer (fun g w vs h => by rw [h.1]; rfl) (fun qual f cdv A outer s E g w vs Q hr hc hp q => ?_)
  obtain ⟨v, d⟩ := g
  obtain ⟨rfl, hv⟩ := hp
  refine ⟨_, (pss_one (ps_ret (pe_and (pe_callB (show CallR _ _ (rIsi K) from call_isi) (by rfl) T.m_isinstance boot_isinstance (pa_cons (pv 0) (pa_cons (pe_bltn (v := .ty "int") rfl T.m_int boot_int rfl) pa_nil))) (pe_one (pe_not (pe_callB (show CallR _ _ (rIsi K) from call_isi) (by rfl) T.m_isinstance boot_isinstance (pa_cons (pv 0) (pa_cons (pe_bltn (v := .ty "bool") rfl T.m_bool boot_bool rfl) pa_nil)))))))), ?_⟩
  have hh := hv.mono w.ext
  walk_at "st"
  refine isi hh (kit_int d) ?_
  walk_at "st"
  refine ite_b (fun e => ?_) (fun e => ?_)
  · walk_at "st"
    refine isi hh (kit_bool d) ?_
    walk_at "st"
    exact q _ _ (Le.refl _) (Nat.le_refl _) (by unfold isI; rw [e]; rfl)
  · exact q _ _ (Le.refl _) (Nat.le_refl _) (by unfold isI; rw [e]; rfl)
theorem isI_int {d : PyData} (h : isI d = true) : ∃ i, d = .int i := by
  cases d with
  | int i => exact ⟨i, rfl⟩
  | _ => simp [isI, isD] at h
abbrev s_is_within : Stmt := topS 7
theorem sc_is_within : FnScope ["value", "low", "high"] ["value", "low", "high"] (defScope s_is_within) := fnScope_by (by decide +kernel)
theorem bi_is_within : BindsBy "is_within" s_is_within ["value", "low", "high"] := fun _ _ _ _ _ _ us hl => match us, hl with | [_, _, _], _ => rfl
def isW (lo hi : Int) : PyData → Bool
  | .int i => decide (lo ≤ i) && decide (i ≤ hi)
  | _ => false
abbrev sp_is_within (K : PySem.W.Frag) : Sp := SpG (γ := V × PyData × Int × Int) (fun _ => 0) (fun g w vs => vs = [g.1, .int g.2.2.1, .int g.2.2.2] ∧ Dat K w.k g.1 g.2.1) (fun g w r u => r = .bl (isW g.2.2.1 g.2.2.2 g.2.1))
theorem c_is_within (D : Df K mg "is_within" s_is_within) (c_is_integer : Cal P w K mg base CX0 1 "is_integer" ["value"] (sp_is_integer K)) : Cal P w K mg base CX0 2 "is_within" ["value", "low", "high"] (sp_is_within K) := by
  have sc := sc_is_within
  refine D.cal sc bi_is_within (fun g w vs h => by rw [h.1]; rfl) (fun qual f cdv A outer s E g w vs Q hr hc hp q => ?_)
  obtain ⟨v, d, lo, hi⟩ := g
  obtain ⟨rfl, hv⟩ := hp
  refine ⟨_, (pss_one (ps_ret (pe_and (pe_cc c_is_integer hr (by first | decide | exact Nat.le_refl _) rfl (pa_cons (pv 0) pa_nil)) (pe_one (pe_chain op_le op_le (pv 1) (pv 0) (pv 2)))))), ?_⟩
  walk_at "st"
  refine ⟨(v, d), w, rfl, hc, ⟨rfl, hv⟩, fun r u le hu e => ?_⟩
  subst e
  walk_at "st"
  refine ite_b (fun e => ?_) (fun e => ?_)
  · obtain ⟨i, rfl⟩ := isI_int e
    cases hv
    walk_at "st"
    refine ite_b (fun e1 => ?_) (fun e1 => ?_)
    · walk_at "st"
      exact q _ _ le hu (by show V.bl (decide (i ≤ hi)) = V.bl (decide (lo ≤ i) && decide (i ≤ hi)); rw [e1]; rfl)
    · exact q _ _ le hu (by show V.bl false = V.bl (decide (lo ≤ i) && decide (i ≤ hi)); rw [e1]; rfl)
  · refine q _ _ le hu ?_
    have : isW lo hi d = false := by
      cases d with
      | int i => exact absurd e (by simp [isI, isD])
      | _ => rfl
    show V.bl false = V.bl (isW lo hi d)
    rw [this]
abbrev s_is_list : Stmt := topS 9
theorem sc_is_list : FnScope ["value"] ["value"] (defScope s_is_list) := fnScope_by (by decide +kernel)
theorem bi_is_list : BindsBy "is_list" s_is_list ["value"] := fun _ _ _ _ _ _ us hl => match us, hl with | [_], _ => rfl
def isL : PyData → Bool
  | .list _ => true
  | .tuple _ => true
  | _ => false
abbrev sp_is_list (K : PySem.W.Frag) : Sp := SpG (γ := V × PyData) (fun _ => 0) (fun g w vs => vs = [g.1] ∧ Dat K w.k g.1 g.2) (fun g w r u => r = .bl (isL g.2))
theorem c_is_list (D : Df K mg "is_list" s_is_list) (T : Bi mg) : Cal P w K mg base CX0 1 "is_list" ["value"] (sp_is_list K) := by
  have sc := sc_is_list
  refine D.cal sc bi_is_list (fun g w vs h => by rw [h.1]; rfl) (fun qual f cdv A outer s E g w vs Q hr hc hp q => ?_)
  obtain ⟨v, d⟩ := g
  obtain ⟨rfl, hv⟩ := hp
  refine ⟨_, (pss_one (ps_ret (pe_callB (show CallR _ _ (rIsiT K) from call_isiT) (by rfl) T.m_isinstance boot_isinstance (pa_cons (pv 0) (pa_cons (pe_tup (pa_cons (pe_bltn (v := .ty "list") rfl T.m_list boot_list rfl) (pa_cons (pe_bltn (v := .ty "tuple") rfl T.m_tuple boot_tuple rfl) pa_nil))) pa_nil))))), ?_⟩
  walk_at "st"
  refine tup_k (by show 2 ≤ 1000000; decide) fun p u le hcu np hp => ?_
  refine isi2 ((hv.mono le.k).mono u.ext) (u.ext _ _ hp) (kit_list d) (kit_tuple d) ?_
  refine q _ _ le (by rw [hcu]; exact Nat.le_refl _) ?_
  cases d <;> rfl
end

end Sb
set_option Elab.async false
set_option linter.all false
set_option maxRecDepth 100000
set_option maxHeartbeats 4000000
namespace Sb
open PySem PySem.Spec PyProof.Rows L2
open C8 (fnScope_by)
local macro_rules | `(tactic| walk_at "st") => `(tactic| repeat (first
  | ((with_reducible refine' x_var ?hvar ?_); (case hvar => rfl)) | with_reducible refine x_c ?_ | with_reducible refine x_op ?_ | with_reducible refine x_un ?_ | with_reducible refine x_test ?_ | with_reducible refine x_tb ?_
  | with_reducible refine x_and ?_ | with_reducible refine x_or ?_ | with_reducible refine x_not ?_ | with_reducible refine x_andV ?_ | with_reducible refine x_orV ?_ | with_reducible refine x_notV ?_ | with_reducible refine x_if ?_
  | with_reducible refine x_nil ?_ | with_reducible refine x_cons ?_ | with_reducible refine x_cb ?_ | with_reducible refine x_call ?_ | with_reducible refine x_callS ?_ | with_reducible refine x_callKS ?_ | with_reducible refine x_chain ?_ | with_reducible refine x_sl ?_
  | with_reducible refine x_part ?_ | with_reducible refine x_nopart ?_ | with_reducible refine x_seq ?_ | with_reducible refine x_asg ?_ | with_reducible refine x_gn ?_ | with_reducible refine x_gsub ?_ | with_reducible refine x_par ?_ | with_reducible refine x_par3 ?_
  | with_reducible refine x_ret ?_ | with_reducible refine x_drop ?_ | with_reducible refine x_ifS ?_ | with_reducible refine x_next ?_ | with_reducible refine x_I0 ?_ | with_reducible refine x_U ?_ | with_reducible refine x_eqI ?_
  | with_reducible refine x_eqS ?_ | with_reducible refine x_bm ?_ | with_reducible refine x_tup ?_ | with_reducible refine x_lst ?_ | with_reducible refine x_lstRg ?_ | with_reducible refine x_rg1 ?_ | with_reducible refine x_rg2 ?_
  | with_reducible refine x_forL ?_ | with_reducible refine x_forS ?_ | with_reducible refine x_forT ?_ | with_reducible refine x_forR1 ?_ | with_reducible refine x_forR2 ?_ | with_reducible refine x_lcL ?_ | with_reducible refine x_lcS ?_ | with_reducible refine x_lcR1 ?_ | with_reducible refine x_lcR2 ?_
  | with_reducible refine iteF ?_ | with_reducible refine iteT ?_ | with_reducible refine iteNF ?_ | with_reducible refine iteNT ?_ | with_reducible refine ⟨_, rfl, ?_⟩ | with_reducible refine ⟨_, _, rfl, ?_⟩ | with_reducible refine ⟨_, _, rfl, rfl, ?_⟩))

/-! ### what the laws draw with -/
theorem perm_erase {α : Type} : ∀ {l : List α} {i : Nat} (h : i < l.length), (l[i] :: l.eraseIdx i).Perm l
  | a :: l, 0, _ => List.Perm.refl _
  | a :: l, i + 1, h => (List.Perm.swap a (l[i]'(Nat.lt_of_succ_lt_succ h)) _).trans ((perm_erase (l := l) (i := i) (Nat.lt_of_succ_lt_succ h)).cons a)
section
variable {P : Program} {w : World} {K : PySem.W.Frag} {mg : Str → Option Value} {base : Heap}
abbrev s_law_cell : Stmt := topS 27
theorem sc_law_cell : FnScope ["script", "k"] ["script", "k"] (defScope s_law_cell) := fnScope_by (by decide +kernel)
theorem bi_law_cell : BindsBy "_law_cell" s_law_cell ["script", "k"] := fun _ _ _ _ _ _ us hl => match us, hl with | [_, _], _ => rfl
abbrev sp_law_cell (K : PySem.W.Frag) : Sp := SpG (γ := Addr × List Int × Nat) (fun _ => 0) (fun g w vs => vs = [.ref g.1, .int (g.2.2 : Nat)] ∧ SqL K w.k g.1 (g.2.1.map V.int) ∧ g.2.2 ≤ 1000) (fun g w r u => ∃ i, r = .int i)
theorem c_law_cell (D : Df K mg "_law_cell" s_law_cell) (T : Bi mg) : Cal P w K mg base CX0 1 "_law_cell" ["script", "k"] (sp_law_cell K) := by
  have sc := sc_law_cell
  refine D.cal sc bi_law_cell (fun g w vs h => by rw [h.1]; rfl) (fun qual f cdv A outer s E g w vs Q hr hc hp q => ?_)
  obtain ⟨a, ns, k⟩ := g
  dsimp only at hp hc q
  obtain ⟨rfl, hs, hk⟩ := hp
  refine ⟨_, (pss_one (ps_ret (pe_ifExp (pt_cmpR op_lt (pv 1) (pe_callB (show CallR _ _ (rLen K) from cr_len) (by rfl) T.m_len boot_len (pa_cons (pv 0) pa_nil)) (nomark _)) (pe_ix (show IxR _ (rIxL K) from ix_list) (pv 0) (pv 1) (fun _ _ => rfl)) (pe_op op_add (pe_op op_mul (pe_int) (pv 1)) (pe_op op_modN (pe_callTy cr_int (by rfl) T.m_int boot_int (pa_cons (pe_callB (show CallR _ _ (rSum K) from (cr_sum rfl)) (by rfl) T.m_sum boot_sum (pa_cons (pe_slice (show SlR _ (rSlL K) from sl_list) (pv 0) po_none (po_some (pe_int))) pa_nil)) pa_nil)) (pe_int)))))), ?_⟩
  have hs' : SqL K w.h a (ns.map V.int) := seq_l w.ext hs
  walk_at "st"
  refine len_s (.inl hs') ?_
  walk_at "st"
  refine ite_b (fun e => ?_) (fun e => ?_)
  · have e' := of_decide_eq_true e
    rw [List.length_map] at e'
    have hi : k < ns.length := by omega
    walk_at "st"
    refine ix_l hs' (v := .int ns[k]) (atI_nat (by rw [List.getElem?_map, List.getElem?_eq_getElem hi]; rfl)) ?_
    exact q _ _ (Le.refl _) (Nat.le_refl _) ⟨_, rfl⟩
  · walk_at "st"
    refine x_I (.inl ⟨by decide, by decide⟩) ?_
    walk_at "st"
    refine slL_k hs' fun p u le hcu np hp => ?_
    rw [cutV_map] at hp
    walk_at "st"
    refine sum_s (.inl (.inl (u.ext _ _ hp))) ?_
    walk_at "st"
    refine int_i ?_
    walk_at "st"
    refine x_I (by decide) ?_
    walk_at "st"
    exact q _ _ le (by rw [hcu]; exact Nat.le_refl _) ⟨_, rfl⟩
where
  cutV_map {ns : List Int} {lo hi : Option Int} : cutV (ns.map V.int) lo hi = (List.take (HT.sIx ns.length ns.length hi - HT.sIx ns.length 0 lo) (List.drop (HT.sIx ns.length 0 lo) ns)).map V.int := by
    unfold cutV
    rw [List.length_map, ← List.map_drop, ← List.map_take]
abbrev s_law_box : Stmt := topS 28
theorem sc_law_box : FnScope ["great"] ["great"] (defScope s_law_box) := fnScope_by (by decide +kernel)
theorem bi_law_box : BindsBy "_law_box" s_law_box ["great"] := fun _ _ _ _ _ _ us hl => match us, hl with | [_], _ => rfl
abbrev sp_law_box : Sp := SpG (γ := Int) (fun _ => 0) (fun g w vs => vs = [.int g]) (fun g w r u => ∃ (p : Addr) (d t : Int) (b : Bool), r = .ref p ∧ w.h p = none ∧ u.k p = none ∧ u.h p = some (.lst [.int d, .bl b, .int t, .int 0]) ∧ 0 ≤ d ∧ 0 ≤ t ∧ t < 2147483629)
theorem c_law_box (D : Df K mg "_law_box" s_law_box) (T : Bi mg) : Cal P w K mg base CX0 1 "_law_box" ["great"] sp_law_box := by
  have sc := sc_law_box
  refine D.cal sc bi_law_box (fun g w vs h => by subst h; rfl) (fun qual f cdv A outer s E g w vs Q hr hc hp q => ?_)
  obtain rfl := hp
  refine ⟨_, (pss_one (ps_ret (pe_lst (pa_cons (pe_callB cr_abs (by rfl) T.m_abs boot_abs (pa_cons (pv 0) pa_nil)) (pa_cons (pe_cmpR op_ge (pe_callB cr_abs (by rfl) T.m_abs boot_abs (pa_cons (pv 0) pa_nil)) (pe_op op_pow (pe_int) (pe_int)) (nomark _)) (pa_cons (pe_op op_modN (pe_callTy cr_int (by rfl) T.m_int boot_int (pa_cons (pe_callB cr_abs (by rfl) T.m_abs boot_abs (pa_cons (pv 0) pa_nil)) pa_nil)) (pe_int)) (pa_cons (pe_int) pa_nil))))))), ?_⟩
  have ab : (0 : Int) ≤ if g < 0 then -g else g := by split <;> omega
  walk_at "st"
  refine abs_i ?_
  walk_at "st"
  refine abs_i ?_
  walk_at "st"
  refine x_I ⟨by decide, by decide, by decide⟩ ?_
  walk_at "st"
  refine abs_i ?_
  walk_at "st"
  refine int_i ?_
  walk_at "st"
  refine x_I (by decide) ?_
  walk_at "st"
  refine lst_o (by show 4 ≤ 1000000; decide) fun p u le hcu np hp hk _ => ?_
  have h1 := Int.fmod_nonneg_of_pos (if g < 0 then -g else g) (show (0 : Int) < 2147483629 by decide)
  have h2 := Int.fmod_lt_of_pos (if g < 0 then -g else g) (show (0 : Int) < 2147483629 by decide)
  exact q _ _ le (by rw [hcu]; exact Nat.le_refl _) ⟨p, _, _, _, rfl, np, hk, hp, ab, h1, h2⟩
abbrev s_law_take : Stmt := topS 29
theorem sc_law_take : FnScope ["box", "many", "digit", "mixed"] ["box", "many"] (defScope s_law_take) := fnScope_by (by decide +kernel)
theorem bi_law_take : BindsBy "_law_take" s_law_take ["box", "many"] := fun _ _ _ _ _ _ us hl => match us, hl with | [_, _], _ => rfl
abbrev sp_law_take : Sp := SpG (γ := Addr × Int) (fun _ => 1) (fun g w vs => vs = [.ref g.1, .int g.2] ∧ w.b = some g.1 ∧ 1 ≤ g.2 ∧ g.2 < 1073741824) (fun g w r u => ∃ i, r = .int i ∧ 0 ≤ i ∧ i < g.2)
theorem c_law_take (D : Df K mg "_law_take" s_law_take) (T : Bi mg) : Cal P w K mg base CX0 1 "_law_take" ["box", "many"] sp_law_take := by
  have sc := sc_law_take
  refine D.cal sc bi_law_take (fun g w vs h => by rw [h.1]; rfl) (fun qual f cdv A outer s E g w vs Q hr hc hp q => ?_)
  obtain ⟨a, m⟩ := g
  dsimp only at hp hc q
  obtain ⟨rfl, hb, h1, h2⟩ := hp
  refine ⟨_, (pss_cons (ps_if (PW.pt (pw_and (pt_val (pe_ix (show IxR _ (rIxL K) from ix_list) (pv 0) (pe_int) (fun _ _ => rfl))) (pw_and1 (pt_cmpR op_gt (pe_ix (show IxR _ (rIxL K) from ix_list) (pv 0) (pe_int) (fun _ _ => rfl)) (pe_int) (nomark _)))))
      (pss_cons (ps_set (i := 2) sc.nd rfl (.inl rfl) (pe_op op_modN (pe_callTy cr_int (by rfl) T.m_int boot_int (pa_cons (pe_ix (show IxR _ (rIxL K) from ix_list) (pv 0) (pe_int) (fun _ _ => rfl)) pa_nil)) (pv 1)))
      (pss_cons (ps_asg (pe_op op_fdivN (pe_ix (show IxR _ (rIxL K) from ix_list) (pv 0) (pe_int) (fun _ _ => rfl)) (pv 1)) (pg_sub (pv 0) (pe_int) set_list))
      (pss_one (ps_ret (pv 2)))))
      pss_nil)
    (pss_cons (ps_asg (pe_op op_add (pe_ix (show IxR _ (rIxL K) from ix_list) (pv 0) (pe_int) (fun _ _ => rfl)) (pe_int)) (pg_sub (pv 0) (pe_int) set_list))
    (pss_cons (ps_set (i := 3) sc.nd rfl (.inl rfl) (pe_op op_modN (pe_callTy cr_int (by rfl) T.m_int boot_int (pa_cons (pe_op op_pow (pe_op op_add (pe_op op_add (pe_ix (show IxR _ (rIxL K) from ix_list) (pv 0) (pe_int) (fun _ _ => rfl)) (pe_op op_mul (pe_int) (pe_ix (show IxR _ (rIxL K) from ix_list) (pv 0) (pe_int) (fun _ _ => rfl)))) (pe_int)) (pe_int)) pa_nil)) (pe_int)))
    (pss_one (ps_ret (pe_op op_modN (pe_callTy cr_int (by rfl) T.m_int boot_int (pa_cons (pe_op op_fdivN (pe_op op_modN (pe_callTy cr_int (by rfl) T.m_int boot_int (pa_cons (pe_op op_pow (pe_op op_add (pe_op op_mul (pv 3) (pe_int)) (pe_op op_mul (pe_int) (pe_ix (show IxR _ (rIxL K) from ix_list) (pv 0) (pe_int) (fun _ _ => rfl)))) (pe_int)) pa_nil)) (pe_int)) (pe_int)) pa_nil)) (pv 1))))))), ?_⟩
  obtain ⟨hk, d, t, n, g, hh, hd, ht0, ht1, hn0, hn1⟩ := w.bx a hb
  have f1 : ∀ x : Int, 0 ≤ x.fmod m ∧ x.fmod m < m := fun x => ⟨Int.fmod_nonneg_of_pos x (by omega), Int.fmod_lt_of_pos x (by omega)⟩
  have low : ∀ Q' : Prop, (∀ u : Wo, u.h = upd w.h a (.lst [.int d, .bl g, .int t, .int (n + 1)]) → Le w u → u.c ≤ w.c + 1 → Q') → Q' := fun Q' k => by
    have hB : BoxAt (upd w.h a (.lst [.int d, .bl g, .int t, .int (n + 1)])) a (w.c + 1) := ⟨d, t, n + 1, g, upd_same, hd, ht0, ht1, by omega, by omega⟩
    exact k (w.box a (w.c + 1) _ hb hB) rfl (le_box hb hB (Nat.le_succ _)) (Nat.le_refl _)
  have high : 0 < d → ∀ Q' : Prop, (∀ u : Wo, u.h = upd w.h a (.lst [.int (d.fdiv m), .bl g, .int t, .int n]) → Le w u → u.c ≤ w.c + 1 → Q') → Q' := fun h0 Q' k => by
    have hz : 0 ≤ d.fdiv m := Int.fdiv_nonneg (by omega) (by omega)
    have hB : BoxAt (upd w.h a (.lst [.int (d.fdiv m), .bl g, .int t, .int n])) a (w.c + 1) := ⟨d.fdiv m, t, n, g, upd_same, hz, ht0, ht1, hn0, by omega⟩
    exact k (w.box a (w.c + 1) _ hb hB) rfl (le_box hb hB (Nat.le_succ _)) (Nat.le_refl _)
  walk_at "st"
  refine ix_l (SqL.of hh) (i := 1) (by rfl) ?_
  walk_at "st"
  refine ite_b (fun e => ?_) (fun e => ?_)
  walk_at "st"
  refine ix_l (SqL.of hh) (i := 0) (by rfl) ?_
  walk_at "st"
  refine ite_b (fun e => ?_) (fun e => ?_)
  · have h0 : 0 < d := of_decide_eq_true e
    walk_at "st"
    refine ix_l (SqL.of hh) (i := 0) (by rfl) ?_
    walk_at "st"
    refine int_i ?_
    walk_at "st"
    refine x_fmod (by omega) ?_
    walk_at "st"
    refine ix_l (SqL.of hh) (i := 0) (by rfl) ?_
    walk_at "st"
    refine x_I ⟨by omega, by omega⟩ ?_
    walk_at "st"
    refine setL hh (by decide) (by show (0 : Int) < 4; decide) ?_
    walk_at "st"
    refine high h0 _ fun u hu le hcu => ?_
    show Q _ (upd w.h a (.lst [.int (d.fdiv m), .bl g, .int t, .int n]))
    rw [← hu]
    exact q _ _ le hcu ⟨_, rfl, f1 d⟩
  all_goals
    walk_at "st"
    refine ix_l (SqL.of hh) (i := 3) (by rfl) ?_
    walk_at "st"
    refine setL hh (by decide) (by show (3 : Int) < 4; decide) ?_
    refine low _ fun u hu le hcu => ?_
    show tSeq _ _ _ _ (upd w.h a (.lst [.int d, .bl g, .int t, .int (n + 1)]))
    rw [← hu]
    have hx : u.h a = some (.lst [.int d, .bl g, .int t, .int (n + 1)]) := by rw [hu]; exact upd_same
    walk_at "st"
    refine ix_l (SqL.of hx) (i := 2) (by rfl) ?_
    walk_at "st"
    refine ix_l (SqL.of hx) (i := 3) (by rfl) ?_
    refine x_I (.inl ⟨by decide, by decide⟩) ?_
    walk_at "st"
    refine x_I ⟨by decide, by decide, by unfold MAXC at hc; omega⟩ ?_
    walk_at "st"
    refine int_i ?_
    walk_at "st"
    refine x_fmod (by decide) ?_
    have f2 := fun x : Int => And.intro (Int.fmod_nonneg_of_pos x (show (0 : Int) < 2147483647 by decide)) (Int.fmod_lt_of_pos x (show (0 : Int) < 2147483647 by decide))
    walk_at "st"
    refine x_I (.inr ⟨by decide, by decide⟩) ?_
    walk_at "st"
    refine ix_l (SqL.of hx) (i := 3) (by rfl) ?_
    refine x_I (.inl ⟨by decide, by decide⟩) ?_
    walk_at "st"
    generalize hgen : ((t + 15487441 * (n + 1) + 179426279) ^ (5 : Int).toNat).fmod 2147483647 = mixed
    have f3 := f2 ((t + 15487441 * (n + 1) + 179426279) ^ (5 : Int).toNat)
    rw [hgen] at f3
    refine x_I ⟨by decide, by decide, by unfold MAXC at hc; omega⟩ ?_
    walk_at "st"
    refine int_i ?_
    walk_at "st"
    refine x_fmod (by decide) ?_
    walk_at "st"
    refine x_I ⟨by decide, by decide⟩ ?_
    walk_at "st"
    refine int_i ?_
    walk_at "st"
    refine x_fmod (by omega) ?_
    exact q _ _ le hcu ⟨_, rfl, f1 _⟩
abbrev s_law_mixed : Stmt := topS 30
theorem sc_law_mixed : FnScope ["box", "items", "left", "found", "turn"] ["box", "items"] (defScope s_law_mixed) := fnScope_by (by decide +kernel)
theorem bi_law_mixed : BindsBy "_law_mixed" s_law_mixed ["box", "items"] := fun _ _ _ _ _ _ us hl => match us, hl with | [_, _], _ => rfl
abbrev sp_law_mixed (K : PySem.W.Frag) : Sp := SpG (γ := Addr × Addr × List V) (fun g => g.2.2.length) (fun g w vs => vs = [.ref g.1, .ref g.2.1] ∧ w.b = some g.1 ∧ SqS K w.k g.2.1 g.2.2 ∧ g.2.2.length ≤ 1000)
  (fun g w r u => ∃ (p : Addr) (ys : List V), r = .ref p ∧ w.h p = none ∧ u.h p = some (.lst ys) ∧ u.k p = none ∧ ys.Perm g.2.2)
theorem c_law_mixed (D : Df K mg "_law_mixed" s_law_mixed) (T : Bi mg) (c__law_take : Cal P w K mg base CX0 1 "_law_take" ["box", "many"] sp_law_take) : Cal P w K mg base CX0 2 "_law_mixed" ["box", "items"] (sp_law_mixed K) := by
  have sc := sc_law_mixed
  refine D.cal sc bi_law_mixed (fun g w vs h => by rw [h.1]; rfl) (fun qual f cdv A outer s E g w vs Q hr hc hp q => ?_)
  obtain ⟨b, a, xs⟩ := g
  dsimp only at hp hc q
  obtain ⟨rfl, hb, hs, hz⟩ := hp
  refine ⟨_, (pss_cons (ps_par (i := 2) (j := 3) rfl sc.nd rfl rfl (by decide) rfl rfl (pa_cons (pe_callTy (show CallR _ _ (rListOf K) from cr_listOf) (by rfl) T.m_list boot_list (pa_cons (pv 1) pa_nil)) (pa_cons (pe_lst pa_nil) pa_nil)) (by rfl))
    (pss_cons (ps_for PassesOwn.never rfl (pi_range1 (by rfl) T.m_range (pa_cons (pe_callB (show CallR _ _ (rLen K) from cr_len) (by rfl) T.m_len boot_len (pa_cons (pv 1) pa_nil)) pa_nil)) (pg_name (i := 4) sc.nd rfl (.inl rfl))
      (pss_one (ps_expr (show PE _ _ (tBM K _ _ _ _) from pe_bm PySem.F.plainAttrs_list PySem.F.slot_list_append PySem.F.type_list_append mt_append (pv 3) (pa_cons (show PE _ _ (tBM K _ _ _ _) from pe_bm PySem.F.plainAttrs_list PySem.F.slot_list_pop PySem.F.type_list_pop mt_popAt (pv 2) (pa_cons (pe_cc c__law_take hr (by first | decide | exact Nat.le_refl _) rfl (pa_cons (pv 0) (pa_cons (pe_callB (show CallR _ _ (rLen K) from cr_len) (by rfl) T.m_len boot_len (pa_cons (pv 2) pa_nil)) pa_nil))) pa_nil)) pa_nil)))))
    (pss_one (ps_ret (pv 3))))), ?_⟩
  walk_at "st"
  refine listOf_o (hs.mono w.ext) fun l u1 le1 hc1 nl hl kl _ => ?_
  walk_at "st"
  refine lst_o (by show 0 ≤ 1000000; decide) fun fo u2 le2 hc2 nf hf kf _ => ?_
  have hl2 := le2.h l _ (le1.nobox nl) hl
  have kl2 := le2.own l _ hl kl
  have nfl : l ≠ fo := ne_of_none hl nf
  have nf0 : w.h fo = none := le1.fresh nf
  have le := le1.trans le2
  walk_at "st"
  refine len_s ((hs.mono le.k).mono u2.ext) ?_
  walk_at "st"
  refine for_r1 (by omega) (by omega) ⟨fun i σ v => ∃ t left found, σ = [some (.ref b), some (.ref a), some (.ref l), some (.ref fo), t] ∧ Le w v ∧ v.c ≤ w.c + i ∧ v.h l = some (.lst left) ∧ v.k l = none ∧ v.h fo = some (.lst found) ∧ v.k fo = none ∧
    (left ++ found).Perm xs ∧ found.length = i ∧ left.length + i = xs.length, ⟨none, xs, [], rfl, le, by omega, hl2, kl2, hf, kf, by rw [List.append_nil], rfl, rfl⟩, fun _ _ _ _ _ => trivial, ?_, ?_⟩
  · rintro i x σ v hi rfl ⟨t, left, found, rfl, lv, cv, e1, k1, e2, k2, pm, f1, f2⟩
    have hpos : 0 < left.length := by omega
    walk_at "st"
    refine ⟨isList e2, ?_⟩
    walk_at "st"
    refine ⟨isList e1, ?_⟩
    walk_at "st"
    refine len_s (SqS.l e1) ?_
    walk_at "st"
    refine ⟨(b, (left.length : Nat)), v, rfl, by show v.c + 1 ≤ MAXC; omega, ⟨rfl, lv.b.trans hb, by show (1 : Int) ≤ (left.length : Nat); omega, by show ((left.length : Nat) : Int) < 1073741824; omega⟩, ?_⟩
    rintro r u lu cu ⟨j, rfl, j0, j1⟩
    dsimp only at j1 cu
    have lw := lv.trans lu
    have e1' := lu.h l _ (lv.nobox nl) e1
    have e2' := lu.h fo _ (lv.nobox nf0) e2
    walk_at "st"
    refine popAt_w e1' j0 j1 (by omega) fun y hy => ?_
    obtain ⟨v2, h2, _, c2, l2, lk2, g2, n2⟩ := put_w lw e1' (lu.own l _ e1 k1) nl (o' := .lst (left.eraseIdx j.toNat))
    rw [← h2]
    have e3 : v2.h fo = some (.lst found) := by rw [h2, upd_ne nfl.symm]; exact e2'
    walk_at "st"
    refine append_w e3 (by omega) ?_
    obtain ⟨v3, h3, _, c3, l3, lk3, g3, n3⟩ := put_w l2 e3 ((lk2.own fo _ e2' (lu.own fo _ e2 k2)).1) nf0 (o' := .lst (found ++ [y]))
    rw [← h3]
    refine ⟨v3, rfl, some (.int (0 + (i : Int))), left.eraseIdx j.toNat, found ++ [y], rfl, l3, by omega, by rw [h3, upd_ne nfl]; exact g2, (lk3.own l _ g2 n2).1, g3, n3, ?_, by rw [List.length_append, f1]; rfl, ?_⟩
    · refine List.Perm.trans ?_ pm
      obtain ⟨hj, rfl⟩ := List.getElem?_eq_some_iff.mp hy
      have p1 := (perm_erase hj).append_right found
      refine List.Perm.trans ?_ p1
      rw [← List.append_assoc]
      refine (List.perm_append_comm).trans ?_
      exact List.Perm.refl _
    · rw [List.length_eraseIdx_of_lt (by omega)]
      omega
  · rintro σ v ⟨t, left, found, rfl, lv, cv, e1, k1, e2, k2, pm, f1, f2⟩
    walk_at "st"
    rw [Int.toNat_natCast] at f1 f2 cv
    have hl0 : left = [] := List.eq_nil_of_length_eq_zero (by omega)
    subst hl0
    exact q _ v lv (by omega) ⟨fo, found, rfl, nf0, e2, k2, pm⟩
end

end Sb
set_option Elab.async false
set_option linter.all false
set_option maxRecDepth 100000
set_option maxHeartbeats 4000000
namespace Sb
open PySem PySem.Spec PyProof.Rows L2
open C8 (fnScope_by)
local macro_rules | `(tactic| walk_at "st") => `(tactic| repeat (first
  | ((with_reducible refine' x_var ?hvar ?_); (case hvar => rfl)) | with_reducible refine x_c ?_ | with_reducible refine x_op ?_ | with_reducible refine x_un ?_ | with_reducible refine x_test ?_ | with_reducible refine x_tb ?_
  | with_reducible refine x_and ?_ | with_reducible refine x_or ?_ | with_reducible refine x_not ?_ | with_reducible refine x_andV ?_ | with_reducible refine x_orV ?_ | with_reducible refine x_notV ?_ | with_reducible refine x_if ?_
  | with_reducible refine x_nil ?_ | with_reducible refine x_cons ?_ | with_reducible refine x_cb ?_ | with_reducible refine x_call ?_ | with_reducible refine x_callS ?_ | with_reducible refine x_callKS ?_ | with_reducible refine x_chain ?_ | with_reducible refine x_sl ?_
  | with_reducible refine x_part ?_ | with_reducible refine x_nopart ?_ | with_reducible refine x_seq ?_ | with_reducible refine x_asg ?_ | with_reducible refine x_gn ?_ | with_reducible refine x_gsub ?_ | with_reducible refine x_par ?_ | with_reducible refine x_par3 ?_
  | with_reducible refine x_ret ?_ | with_reducible refine x_drop ?_ | with_reducible refine x_ifS ?_ | with_reducible refine x_next ?_ | with_reducible refine x_I0 ?_ | with_reducible refine x_U ?_ | with_reducible refine x_eqI ?_
  | with_reducible refine x_eqS ?_ | with_reducible refine x_bm ?_ | with_reducible refine x_tup ?_ | with_reducible refine x_lst ?_ | with_reducible refine x_lstRg ?_ | with_reducible refine x_rg1 ?_ | with_reducible refine x_rg2 ?_
  | with_reducible refine x_forL ?_ | with_reducible refine x_forS ?_ | with_reducible refine x_forT ?_ | with_reducible refine x_forR1 ?_ | with_reducible refine x_forR2 ?_ | with_reducible refine x_lcL ?_ | with_reducible refine x_lcS ?_ | with_reducible refine x_lcR1 ?_ | with_reducible refine x_lcR2 ?_
  | with_reducible refine iteF ?_ | with_reducible refine iteT ?_ | with_reducible refine iteNF ?_ | with_reducible refine iteNT ?_ | with_reducible refine ⟨_, rfl, ?_⟩ | with_reducible refine ⟨_, _, rfl, ?_⟩ | with_reducible refine ⟨_, _, rfl, rfl, ?_⟩))

/-! ### the same data -/
mutual
/-- how deep; a dict holds nothing -/
def dep : PyData → Nat
  | .list xs => depAll xs + 1
  | .tuple xs => depAll xs + 1
  | _ => 1
def depAll : List PyData → Nat
  | [] => 0
  | x :: r => max (dep x) (depAll r)
def noKeys : PyData → Bool
  | .dict l => l.isEmpty
  | .list xs => decide (xs.length ≤ 1000000) && noKeysAll xs
  | .tuple xs => decide (xs.length ≤ 1000000) && noKeysAll xs
  | _ => true
def noKeysAll : List PyData → Bool
  | [] => true
  | x :: r => noKeys x && noKeysAll r
end
theorem depAll_get : ∀ {xs : List PyData} {i : Nat} {d : PyData}, xs[i]? = some d → dep d ≤ depAll xs
  | x :: r, 0, d, h => by
    have e := Option.some.inj h
    subst e
    unfold depAll
    exact Nat.le_max_left _ _
  | x :: r, i + 1, d, h => by
    unfold depAll
    exact Nat.le_trans (depAll_get (xs := r) (i := i) h) (Nat.le_max_right _ _)
theorem noKeysAll_get : ∀ {xs : List PyData} {i : Nat} {d : PyData}, noKeysAll xs = true → xs[i]? = some d → noKeys d = true
  | x :: r, 0, d, k, h => by
    have e := Option.some.inj h
    subst e
    unfold noKeysAll at k
    exact (Bool.and_eq_true_iff.mp k).1
  | x :: r, i + 1, d, k, h => by
    unfold noKeysAll at k
    exact noKeysAll_get (xs := r) (i := i) (Bool.and_eq_true_iff.mp k).2 h
theorem dep_pos (d : PyData) : 1 ≤ dep d := by
  cases d <;> (unfold dep; omega)
section
variable {P : Program} {w : World} {K : PySem.W.Frag} {mg : Str → Option Value} {base : Heap}
abbrev s_law_same : Stmt := topS 31
theorem sc_law_same : FnScope ["given", "due", "key", "k"] ["given", "due"] (defScope s_law_same) := fnScope_by (by decide +kernel)
theorem bi_law_same : BindsBy "_law_same" s_law_same ["given", "due"] := fun _ _ _ _ _ _ us hl => match us, hl with | [_, _], _ => rfl
abbrev sp_law_same (K : PySem.W.Frag) (n : Nat) : Sp := SpG (γ := V × V × PyData) (fun _ => 0) (fun g w vs => vs = [g.1, g.2.1] ∧ Dat K w.k g.1 g.2.2 ∧ Dat K w.k g.2.1 g.2.2 ∧ noKeys g.2.2 = true ∧ dep g.2.2 ≤ n) (fun g w r u => r = .bl true)
theorem c_law_same_step (n : Nat) (D : Df K mg "_law_same" s_law_same) (T : Bi mg) (c__law_same : Cal P w K mg base CX0 n "_law_same" ["given", "due"] (sp_law_same K n)) : Cal P w K mg base CX0 (n + 1) "_law_same" ["given", "due"] (sp_law_same K (n + 1)) := by
  have sc := sc_law_same
  refine D.cal sc bi_law_same (fun g w vs h => by rw [h.1]; rfl) (fun qual f cdv A outer s E g w vs Q hr hc hp q => ?_)
  obtain ⟨v, u, d⟩ := g
  dsimp only at hp hc q
  obtain ⟨rfl, hv0, hu0, hn, hd⟩ := hp
  refine ⟨_, (pss_cons (ps_if (PW.pt (pw_or (pt_cmpR op_isNo (pv 1) (pe_non) (nomark _)) (pw_or1 (pt_val (pe_callB (show CallR _ _ (rIsi K) from call_isi) (by rfl) T.m_isinstance boot_isinstance (pa_cons (pv 1) (pa_cons (pe_bltn (v := .ty "bool") rfl T.m_bool boot_bool rfl) pa_nil)))))))
      (pss_one (ps_ret (pe_ifExp (pt_cmpR op_isNo (pv 1) (pe_non) (nomark _)) (pe_cmpR op_isNo (pv 0) (pe_non) (nomark _)) (pe_and (pe_callB (show CallR _ _ (rIsi K) from call_isi) (by rfl) T.m_isinstance boot_isinstance (pa_cons (pv 0) (pa_cons (pe_bltn (v := .ty "bool") rfl T.m_bool boot_bool rfl) pa_nil))) (pe_one (pe_cmpR op_eq (pe_cmpR op_isBl (pv 0) (pe_bl) (nomark _)) (pe_cmpR op_isBl (pv 1) (pe_bl) (nomark _)) (nomark _)))))))
      pss_nil)
    (pss_cons (ps_if (pt_val (pe_callB (show CallR _ _ (rIsi K) from call_isi) (by rfl) T.m_isinstance boot_isinstance (pa_cons (pv 1) (pa_cons (pe_bltn (v := .ty "int") rfl T.m_int boot_int rfl) pa_nil))))
      (pss_one (ps_ret (pe_and (pe_callB (show CallR _ _ (rIsi K) from call_isi) (by rfl) T.m_isinstance boot_isinstance (pa_cons (pv 0) (pa_cons (pe_bltn (v := .ty "int") rfl T.m_int boot_int rfl) pa_nil))) (pe_and (pe_not (pe_callB (show CallR _ _ (rIsi K) from call_isi) (by rfl) T.m_isinstance boot_isinstance (pa_cons (pv 0) (pa_cons (pe_bltn (v := .ty "bool") rfl T.m_bool boot_bool rfl) pa_nil)))) (pe_one (pe_cmpR op_eq (pe_op op_sub (pe_callTy cr_int (by rfl) T.m_int boot_int (pa_cons (pv 0) pa_nil)) (pv 1)) (pe_int) (nomark _)))))))
      pss_nil)
    (pss_cons (ps_if (pt_val (pe_callB (show CallR _ _ (rIsi K) from call_isi) (by rfl) T.m_isinstance boot_isinstance (pa_cons (pv 1) (pa_cons (pe_bltn (v := .ty "str") rfl T.m_str boot_str rfl) pa_nil))))
      (pss_one (ps_ret (pe_and (pe_callB (show CallR _ _ (rIsi K) from call_isi) (by rfl) T.m_isinstance boot_isinstance (pa_cons (pv 0) (pa_cons (pe_bltn (v := .ty "str") rfl T.m_str boot_str rfl) pa_nil))) (pe_one (pe_cmpR op_eq (pv 0) (pv 1) (nomark _))))))
      pss_nil)
    (pss_cons (ps_if (pt_val (pe_callB (show CallR _ _ (rIsi K) from call_isi) (by rfl) T.m_isinstance boot_isinstance (pa_cons (pv 1) (pa_cons (pe_bltn (v := .ty "dict") rfl T.m_dict boot_dict rfl) pa_nil))))
      (pss_cons (ps_if (PW.pt (pw_or (pt_not (pt_val (pe_callB (show CallR _ _ (rIsi K) from call_isi) (by rfl) T.m_isinstance boot_isinstance (pa_cons (pv 0) (pa_cons (pe_bltn (v := .ty "dict") rfl T.m_dict boot_dict rfl) pa_nil))))) (pw_or1 (pt_cmpR op_ne (pe_callB (show CallR _ _ (rLenU K) from cr_lenU) (by rfl) T.m_len boot_len (pa_cons (pv 0) pa_nil)) (pe_callB (show CallR _ _ (rLenU K) from cr_lenU) (by rfl) T.m_len boot_len (pa_cons (pv 1) pa_nil)) (nomark _)))))
        (pss_one (ps_ret (pe_bl)))
        pss_nil)
      (pss_one (ps_lock (ps_ret (pe_cmpR (show OpR _ _ (rEqD K) from (op_eqD hr.units)) (pe_lc rfl sc.nd (own := [("key", 2)]) (pi_keys (pv 1)) (blkOk_by (N := ["given", "due", "key", "k"]) (sc := defScope s_law_same) (by decide +kernel)) (fun _ _ _ _ _ => (pg_name (i := 2) sc.nd rfl (.inl rfl))) (fun _ _ _ _ _ => (pts_one (PW.pt (pw_or (pt_cmp (pc_dnotin (hu_of hr) (pv 2) (pv 0)) (by rfl)) (pw_or1 (pt_not (pt_val (pe_cc c__law_same hr (by first | decide | exact Nat.le_refl _) rfl (pa_cons (pe_dget (hu_of hr) (pv 0) (pv 2) (fun _ _ => rfl)) (pa_cons (pe_dget (hu_of hr) (pv 1) (pv 2) (fun _ _ => rfl)) pa_nil)))))))))) (fun _ _ _ _ _ => (pv 2))) (pe_lst pa_nil) (nomark _))))))
      pss_nil)
    (pss_cons (ps_if (PW.pt (pw_or (pt_not (pt_val (pe_callB (show CallR _ _ (rIsiT K) from call_isiT) (by rfl) T.m_isinstance boot_isinstance (pa_cons (pv 1) (pa_cons (pe_tup (pa_cons (pe_bltn (v := .ty "list") rfl T.m_list boot_list rfl) (pa_cons (pe_bltn (v := .ty "tuple") rfl T.m_tuple boot_tuple rfl) pa_nil))) pa_nil))))) (pw_or1 (pt_not (pt_val (pe_callB (show CallR _ _ (rIsiT K) from call_isiT) (by rfl) T.m_isinstance boot_isinstance (pa_cons (pv 0) (pa_cons (pe_tup (pa_cons (pe_bltn (v := .ty "list") rfl T.m_list boot_list rfl) (pa_cons (pe_bltn (v := .ty "tuple") rfl T.m_tuple boot_tuple rfl) pa_nil))) pa_nil))))))))
      (pss_one (ps_ret (pe_bl)))
      pss_nil)
    (pss_cons (ps_if (PW.pt (pw_or (pt_cmpR op_ne (pe_callB (show CallR _ _ (rIsi K) from call_isi) (by rfl) T.m_isinstance boot_isinstance (pa_cons (pv 0) (pa_cons (pe_bltn (v := .ty "list") rfl T.m_list boot_list rfl) pa_nil))) (pe_callB (show CallR _ _ (rIsi K) from call_isi) (by rfl) T.m_isinstance boot_isinstance (pa_cons (pv 1) (pa_cons (pe_bltn (v := .ty "list") rfl T.m_list boot_list rfl) pa_nil))) (nomark _)) (pw_or1 (pt_cmpR op_ne (pe_callB (show CallR _ _ (rLenU K) from cr_lenU) (by rfl) T.m_len boot_len (pa_cons (pv 0) pa_nil)) (pe_callB (show CallR _ _ (rLenU K) from cr_lenU) (by rfl) T.m_len boot_len (pa_cons (pv 1) pa_nil)) (nomark _)))))
      (pss_one (ps_ret (pe_bl)))
      pss_nil)
    (pss_one (ps_ret (pe_cmpR (show OpR _ _ (rEqD K) from (op_eqD hr.units)) (pe_lc rfl sc.nd (own := [("k", 3)]) (pi_range1 (by rfl) T.m_range (pa_cons (pe_callB (show CallR _ _ (rLenU K) from cr_lenU) (by rfl) T.m_len boot_len (pa_cons (pv 1) pa_nil)) pa_nil)) (blkOk_by (N := ["given", "due", "key", "k"]) (sc := defScope s_law_same) (by decide +kernel)) (fun _ _ _ _ _ => (pg_name (i := 3) sc.nd rfl (.inl rfl))) (fun _ _ _ _ _ => (pts_one (pt_not (pt_val (pe_cc c__law_same hr (by first | decide | exact Nat.le_refl _) rfl (pa_cons (pe_ix (show IxR _ (rIx K) from ix_seq) (pv 0) (pv 3) (fun _ _ => rfl)) (pa_cons (pe_ix (show IxR _ (rIx K) from ix_seq) (pv 1) (pv 3) (fun _ _ => rfl)) pa_nil))))))) (fun _ _ _ _ _ => (pv 3))) (pe_lst pa_nil) (nomark _)))))))))), ?_⟩
  have hv := hv0.mono w.ext
  have hu := hu0.mono w.ext
  have fin : ∀ {r : V}, r = .bl true → Q r w.h := fun e => q _ w (Le.refl _) (Nat.le_refl _) e
  walk_at "st"
  by_cases hq : isSeq d = true
  · obtain ⟨a, xs, rfl, sa, da⟩ := seq_of hv0 hq
    obtain ⟨b, ys, rfl, sb, db⟩ := seq_of hu0 hq
    have lxy : xs.length = ys.length := by rw [da.length, db.length]
    have b1 : isD "bool" d = false ∧ isD "int" d = false ∧ isD "str" d = false ∧ isD "dict" d = false ∧ (isD "list" d || isD "tuple" d) = true := by
      cases d <;> first | exact ⟨rfl, rfl, rfl, rfl, rfl⟩ | cases hq
    have hin : ∀ i x, (itemsD d)[i]? = some x → noKeys x = true ∧ dep x ≤ n := fun i x hx => by
      cases d with
      | list ds =>
        unfold noKeys at hn
        unfold dep at hd
        exact ⟨noKeysAll_get (Bool.and_eq_true_iff.mp hn).2 hx, Nat.le_trans (depAll_get hx) (by show depAll ds ≤ n; omega)⟩
      | tuple ds =>
        unfold noKeys at hn
        unfold dep at hd
        exact ⟨noKeysAll_get (Bool.and_eq_true_iff.mp hn).2 hx, Nat.le_trans (depAll_get hx) (by show depAll ds ≤ n; omega)⟩
      | _ => cases hq
    have lsz : xs.length ≤ 1000000 := by
      rw [da.length]
      cases d with
      | list ds =>
        unfold noKeys at hn
        exact of_decide_eq_true (Bool.and_eq_true_iff.mp hn).1
      | tuple ds =>
        unfold noKeys at hn
        exact of_decide_eq_true (Bool.and_eq_true_iff.mp hn).1
      | _ => cases hq
    refine isNo_no (by intro z; cases z) ?_
    walk_at "st"
    refine isi_f hu (kit_bool _) b1.1 ?_
    walk_at "st"
    refine isi_f hu (kit_int _) b1.2.1 ?_
    walk_at "st"
    refine isi_f hu (kit_str _) b1.2.2.1 ?_
    walk_at "st"
    refine isi_f hu (kit_dict _) b1.2.2.2.1 ?_
    walk_at "st"
    refine tup_k (by show 2 ≤ 1000000; decide) fun p1 w1 le1 hc1 _ hp1 => ?_
    walk_at "st"
    refine isi2_t ((hu0.mono le1.k).mono w1.ext) (w1.ext _ _ hp1) (kit_list _) (kit_tuple _) b1.2.2.2.2 ?_
    walk_at "st"
    refine tup_k (by show 2 ≤ 1000000; decide) fun p2 w2 le2 hc2 _ hp2 => ?_
    walk_at "st"
    have le := le1.trans le2
    have hu2 := (hu0.mono le.k).mono w2.ext
    have hv2 := (hv0.mono le.k).mono w2.ext
    refine isi2_t hv2 (w2.ext _ _ hp2) (kit_list _) (kit_tuple _) b1.2.2.2.2 ?_
    walk_at "st"
    refine isi hv2 (kit_list _) ?_
    walk_at "st"
    refine isi hu2 (kit_list _) ?_
    refine neB_same ?_
    walk_at "st"
    refine lenU_s ((sa.mono le.k).mono w2.ext) ?_
    walk_at "st"
    refine lenU_s ((sb.mono le.k).mono w2.ext) ?_
    refine neI_same (by rw [lxy]) ?_
    walk_at "st"
    refine lenU_s ((sb.mono le.k).mono w2.ext) ?_
    walk_at "st"
    refine lc_r1 (by omega) (by omega) (lc_map (fun _ => false) (fun _ => .non) (by omega) (fun i x u hi hx lu cu Qy Qn qy qn => ?_) (fun p u lu hcu np hp kp => ?_))
    · subst hx
      rw [Int.toNat_natCast] at hi
      have hix : i < xs.length := by omega
      obtain ⟨di, hdi, dx⟩ := da.get (List.getElem?_eq_getElem hix)
      obtain ⟨y, hy, dy⟩ := db.getD hdi
      have lw := le.trans lu
      refine x_gn ⟨rfl, ?_⟩
      walk_at "st"
      refine ix_s ((sa.mono lw.k).mono u.ext) (at_i (by omega) (by rw [show ((0 : Int) + (i : Int)).toNat = i by omega]; exact List.getElem?_eq_getElem hix)) ?_
      walk_at "st"
      refine ix_s ((sb.mono lw.k).mono u.ext) (at_i (by omega) (by rw [show ((0 : Int) + (i : Int)).toNat = i by omega]; exact hy)) ?_
      walk_at "st"
      refine ⟨(xs[i], y, di), u, rfl, by show u.c + 0 ≤ MAXC; omega, ⟨rfl, dx.mono lw.k, dy.mono lw.k, (hin i di hdi).1, (hin i di hdi).2⟩, fun r u2 l2 c2 e => ?_⟩
      subst e
      walk_at "st"
      exact qn rfl u2 l2 (Nat.le_antisymm c2 l2.c)
    · rw [given_false] at hp
      walk_at "st"
      refine lst_k (by show 0 ≤ 1000000; decide) fun p3 w3 le3 hc3 _ hp3 => ?_
      refine eqNil (le3.h p _ (lu.nobox np) hp) (w3.ext _ _ hp3) ?_
      exact q _ w3 ((le.trans lu).trans le3) (by omega) rfl
  cases d with
  | none =>
    cases hv
    cases hu
    refine isNo_yes ?_
    walk_at "st"
    refine isNo_yes ?_
    walk_at "st"
    refine isNo_yes ?_
    exact fin rfl
  | bool b =>
    have e1 : v = .bl b := by cases hv; rfl
    have e2 : u = .bl b := by cases hu; rfl
    subst e1
    subst e2
    refine isNo_no (by intro z; cases z) ?_
    walk_at "st"
    refine isi_t hu (kit_bool _) rfl ?_
    walk_at "st"
    refine isNo_no (by intro z; cases z) ?_
    walk_at "st"
    refine isi_t hv (kit_bool _) rfl ?_
    walk_at "st"
    refine isB ?_
    walk_at "st"
    refine isB ?_
    refine x_eqB ?_
    exact fin (by simp)
  | int i =>
    have e1 : v = .int i := by cases hv; rfl
    have e2 : u = .int i := by cases hu; rfl
    subst e1
    subst e2
    refine isNo_no (by intro z; cases z) ?_
    walk_at "st"
    refine isi_f hu (kit_bool _) rfl ?_
    walk_at "st"
    refine isi_t hu (kit_int _) rfl ?_
    walk_at "st"
    refine isi_t hv (kit_int _) rfl ?_
    walk_at "st"
    refine isi_f hv (kit_bool _) rfl ?_
    walk_at "st"
    refine int_i ?_
    walk_at "st"
    exact fin (by simp)
  | str x =>
    have e1 : v = .str x := by cases hv; rfl
    have e2 : u = .str x := by cases hu; rfl
    subst e1
    subst e2
    refine isNo_no (by intro z; cases z) ?_
    walk_at "st"
    refine isi_f hu (kit_bool _) rfl ?_
    walk_at "st"
    refine isi_f hu (kit_int _) rfl ?_
    walk_at "st"
    refine isi_t hu (kit_str _) rfl ?_
    walk_at "st"
    refine isi_t hv (kit_str _) rfl ?_
    walk_at "st"
    exact fin (by simp)
  | dict l =>
    have hl0 : l = [] := by
      unfold noKeys at hn
      exact List.isEmpty_iff.mp hn
    obtain ⟨a, kvs, rfl, ha, na⟩ := dat_dict hv
    obtain ⟨b, kvt, rfl, hb, nb⟩ := dat_dict hu
    have e1 := na hl0
    have e2 := nb hl0
    subst e1
    subst e2
    refine isNo_no (by intro z; cases z) ?_
    walk_at "st"
    refine isi_f hu (kit_bool _) rfl ?_
    walk_at "st"
    refine isi_f hu (kit_int _) rfl ?_
    walk_at "st"
    refine isi_f hu (kit_str _) rfl ?_
    walk_at "st"
    refine isi_t hu (kit_dict _) rfl ?_
    walk_at "st"
    refine isi_t hv (kit_dict _) rfl ?_
    walk_at "st"
    refine lenU_d ha ?_
    walk_at "st"
    refine lenU_d hb ?_
    refine neI_same rfl ?_
    walk_at "st"
    refine ⟨b, .dK [], hb, trivial, fun od => ?_⟩
    walk_at "st"
    refine ⟨_, rfl, b, od, rfl, .inl ⟨[], upd_same, fun p hp => ⟨fun i m H => i = 0 ∧ H = upd (upd w.h b (.frz od (.dK []))) p (.lst []), ⟨0, rfl, rfl⟩, ?_⟩⟩⟩
    rintro i m H ⟨rfl, rfl⟩
    have pb : p ≠ b := fun z => by
      rw [z, upd_same] at hp
      cases hp
    have hp0 : w.h p = none := by
      rw [upd_ne pb] at hp
      exact hp
    refine .inl ⟨⟨by rw [upd_ne pb.symm]; exact upd_same, Nat.le_refl _⟩, ?_⟩
    walk_at "st"
    refine ⟨by show 0 ≤ sizeLine; decide, fun r hr => ?_⟩
    have rp : r ≠ p := fun z => by
      rw [z, upd_same] at hr
      cases hr
    rw [upd_ne rp] at hr
    have rb : r ≠ b := fun z => by
      rw [z, upd_same] at hr
      cases hr
    rw [upd_ne rb] at hr
    refine eqNil (by rw [upd_ne rp.symm]; exact upd_same) upd_same ⟨by rw [upd_ne rb.symm, upd_ne pb.symm]; exact upd_same, ?_⟩
    have hr1 : (w.newO p (.lst []) hp0).h r = none := by
      show upd w.h p _ r = none
      rw [upd_ne rp]
      exact hr
    have e : upd (upd (upd (upd w.h b (.frz od (.dK []))) p (.lst [])) r (.lst [])) b (.dK []) = ((w.newO p (.lst []) hp0).newO r (.lst []) hr1).h := by
      funext x
      show upd _ b _ x = upd (upd w.h p _) r _ x
      by_cases hx : x = b
      · rw [hx, upd_same, upd_ne rb.symm, upd_ne pb.symm]
        exact hb.symm
      · rw [upd_ne hx]
        by_cases hx2 : x = r
        · rw [hx2, upd_same, upd_same]
        · rw [upd_ne hx2, upd_ne hx2]
          by_cases hx3 : x = p
          · rw [hx3, upd_same, upd_same]
          · rw [upd_ne hx3, upd_ne hx3, upd_ne hx]
    rw [e]
    exact q _ _ ((le_newO hp0).trans (le_newO hr1)) (Nat.le_refl _) rfl
  | list ds => exact absurd rfl hq
  | tuple ds => exact absurd rfl hq
/-- to any depth -/
theorem c_law_same (D : Df K mg "_law_same" s_law_same) (T : Bi mg) : ∀ n : Nat, Cal P w K mg base CX0 n "_law_same" ["given", "due"] (sp_law_same K n)
  | 0 => by
    obtain ⟨f, fd, F, hm⟩ := D.ex
    have no : ∀ vs H Q E, ¬ sp_law_same K 0 vs H Q E := fun vs H Q E h => by
      obtain ⟨g, w0, _, _, ⟨_, _, _, _, hd⟩, _⟩ := h
      have := dep_pos g.2.2
      omega
    exact ⟨f, fd, ⟨fun vs H Q E h => absurd h (no vs H Q E), fun A outer s H args us vs Q E _ _ _ _ h => absurd h (no vs H Q E)⟩, hm, F.kp, F.binds bi_law_same, fun_lk F⟩
  | n + 1 => c_law_same_step n D T (c_law_same D T n)
end

end Sb
set_option Elab.async false
set_option linter.all false
set_option maxRecDepth 100000
set_option maxHeartbeats 4000000
namespace Sb
open PySem PySem.Spec PyProof.Rows L2
open C8 (fnScope_by)
local macro_rules | `(tactic| walk_at "st") => `(tactic| repeat (first
  | ((with_reducible refine' x_var ?hvar ?_); (case hvar => rfl)) | with_reducible refine x_c ?_ | with_reducible refine x_op ?_ | with_reducible refine x_un ?_ | with_reducible refine x_test ?_ | with_reducible refine x_tb ?_
  | with_reducible refine x_and ?_ | with_reducible refine x_or ?_ | with_reducible refine x_not ?_ | with_reducible refine x_andV ?_ | with_reducible refine x_orV ?_ | with_reducible refine x_notV ?_ | with_reducible refine x_if ?_
  | with_reducible refine x_nil ?_ | with_reducible refine x_cons ?_ | with_reducible refine x_cb ?_ | with_reducible refine x_call ?_ | with_reducible refine x_callS ?_ | with_reducible refine x_callKS ?_ | with_reducible refine x_chain ?_ | with_reducible refine x_sl ?_
  | with_reducible refine x_part ?_ | with_reducible refine x_nopart ?_ | with_reducible refine x_seq ?_ | with_reducible refine x_asg ?_ | with_reducible refine x_gn ?_ | with_reducible refine x_gsub ?_ | with_reducible refine x_par ?_ | with_reducible refine x_par3 ?_
  | with_reducible refine x_ret ?_ | with_reducible refine x_drop ?_ | with_reducible refine x_ifS ?_ | with_reducible refine x_next ?_ | with_reducible refine x_I0 ?_ | with_reducible refine x_U ?_ | with_reducible refine x_eqI ?_
  | with_reducible refine x_eqS ?_ | with_reducible refine x_bm ?_ | with_reducible refine x_tup ?_ | with_reducible refine x_lst ?_ | with_reducible refine x_lstRg ?_ | with_reducible refine x_rg1 ?_ | with_reducible refine x_rg2 ?_
  | with_reducible refine x_forL ?_ | with_reducible refine x_forS ?_ | with_reducible refine x_forT ?_ | with_reducible refine x_forR1 ?_ | with_reducible refine x_forR2 ?_ | with_reducible refine x_lcL ?_ | with_reducible refine x_lcS ?_ | with_reducible refine x_lcR1 ?_ | with_reducible refine x_lcR2 ?_
  | with_reducible refine x_yes ?_ | with_reducible refine x_mkO ?_ | with_reducible refine x_dget ?_ | with_reducible refine x_din ?_ | with_reducible refine x_dnotin ?_ | with_reducible refine x_dput ?_ | with_reducible refine x_forR3 ?_ | with_reducible refine x_lcR3 ?_ | with_reducible refine x_lcD ?_ | with_reducible refine x_lc2R ?_
  | with_reducible refine iteF ?_ | with_reducible refine iteT ?_ | with_reducible refine iteNF ?_ | with_reducible refine iteNT ?_ | with_reducible refine ⟨_, rfl, ?_⟩ | with_reducible refine ⟨_, _, rfl, ?_⟩ | with_reducible refine ⟨_, _, rfl, rfl, ?_⟩))

/-! ### the program: what is generators, what is refused -/
structure Tx (mg : Str → Option Value) : Prop extends Bi mg where
  m_gcd : mg "gcd" = some (.builtin "math.gcd")
  g_MOST_GENERATORS : ∃ u, mg "MOST_GENERATORS" = some u ∧ RelV (.int 200) u
section
variable {P : Program} {w : World} {K : PySem.W.Frag} {mg : Str → Option Value} {base : Heap}
abbrev s_is_count : Stmt := topS 8
theorem sc_is_count : FnScope ["value"] ["value"] (defScope s_is_count) := fnScope_by (by decide +kernel)
theorem bi_is_count : BindsBy "is_count" s_is_count ["value"] := fun _ _ _ _ _ _ us hl => match us, hl with | [_], _ => rfl
def isCt : PyData → Bool
  | .int i => decide (0 ≤ i)
  | _ => false
abbrev sp_is_count (K : PySem.W.Frag) : Sp := SpG (γ := V × PyData) (fun _ => 0) (fun g w vs => vs = [g.1] ∧ Dat K w.k g.1 g.2) (fun g w r u => r = .bl (isCt g.2))
theorem c_is_count (D : Df K mg "is_count" s_is_count) (c_is_integer : Cal P w K mg base CX0 1 "is_integer" ["value"] (sp_is_integer K)) : Cal P w K mg base CX0 2 "is_count" ["value"] (sp_is_count K) := by
  have sc := sc_is_count
  refine D.cal sc bi_is_count (fun g w vs h => by rw [h.1]; rfl) (fun qual f cdv A outer s E g w vs Q hr hc hp q => ?_)
  obtain ⟨v, d⟩ := g
  dsimp only at hp hc q
  obtain ⟨rfl, hv⟩ := hp
  refine ⟨_, (pss_one (ps_ret (pe_and (pe_cc c_is_integer hr (by first | decide | exact Nat.le_refl _) rfl (pa_cons (pv 0) pa_nil)) (pe_one (pe_cmpR op_ge (pv 0) (pe_int) (nomark _)))))), ?_⟩
  walk_at "st"
  refine ⟨(v, d), w, rfl, hc, ⟨rfl, hv⟩, fun r u le hu e => ?_⟩
  subst e
  walk_at "st"
  refine ite_b (fun e => ?_) (fun e => ?_)
  · obtain ⟨i, rfl⟩ := isI_int e
    cases hv
    walk_at "st"
    exact q _ _ le hu rfl
  · refine q _ _ le hu ?_
    have : isCt d = false := by
      cases d with
      | int i => exact absurd e (by simp [isI, isD])
      | _ => rfl
    show V.bl false = V.bl (isCt d)
    rw [this]
abbrev s_are_generators : Stmt := topS 12
theorem sc_are_generators : FnScope ["value", "item", "shared"] ["value"] (defScope s_are_generators) := fnScope_by (by decide +kernel)
theorem bi_are_generators : BindsBy "are_generators" s_are_generators ["value"] := fun _ _ _ _ _ _ us hl => match us, hl with | [_], _ => rfl
def gcdD (ds : List PyData) : Nat := ds.foldl (fun g d => match d with
  | .int i => Nat.gcd g i.natAbs
  | _ => g) 0
def gensOK (d : PyData) : Bool := isL d && (decide (1 ≤ (itemsD d).length) && decide ((itemsD d).length ≤ 200)) && (itemsD d).all (isW 1 200) && decide (gcdD (itemsD d) = 1)
theorem isL_seq (d : PyData) : isL d = isSeq d := by cases d <;> rfl
abbrev sp_are_generators (K : PySem.W.Frag) : Sp := SpG (γ := V × PyData) (fun _ => 0) (fun g w vs => vs = [g.1] ∧ Dat K w.k g.1 g.2) (fun g w r u => r = .bl (gensOK g.2))
theorem c_are_generators (D : Df K mg "are_generators" s_are_generators) (T : Tx mg) (c_is_list : Cal P w K mg base CX0 1 "is_list" ["value"] (sp_is_list K)) (c_is_within : Cal P w K mg base CX0 2 "is_within" ["value", "low", "high"] (sp_is_within K)) :
    Cal P w K mg base CX0 3 "are_generators" ["value"] (sp_are_generators K) := by
  have sc := sc_are_generators
  refine D.cal sc bi_are_generators (fun g w vs h => by rw [h.1]; rfl) (fun qual f cdv A outer s E g w vs Q hr hc hp q => ?_)
  obtain ⟨v, d⟩ := g
  dsimp only at hp hc q
  obtain ⟨rfl, hv⟩ := hp
  refine ⟨_, (pss_cons (ps_if (PW.pt (pw_or (pt_not (pt_val (pe_cc c_is_list hr (by first | decide | exact Nat.le_refl _) rfl (pa_cons (pv 0) pa_nil)))) (pw_or1 (pt_not (pt_chain op_le op_le (pe_int) (pe_callB (show CallR _ _ (rLen K) from cr_len) (by rfl) T.m_len boot_len (pa_cons (pv 0) pa_nil)) (C8.pe_gc (v := .int 200) rfl T.g_MOST_GENERATORS))))))
      (pss_one (ps_ret (pe_bl)))
      pss_nil)
    (pss_cons (ps_if (pt_not (pt_val (pe_callB (show CallR _ _ (rAll K) from (cr_all rfl)) (by rfl) T.m_all boot_all (pa_cons (pe_lc rfl sc.nd (own := [("item", 1)]) (show PI _ _ _ (iSeq K _) from pi_seq (pv 0)) (blkOk_by (N := ["value", "item", "shared"]) (sc := defScope s_are_generators) (by decide +kernel)) (fun _ _ _ _ _ => (pg_name (i := 1) sc.nd rfl (.inl rfl))) (fun _ _ _ _ _ => pts_nil) (fun _ _ _ _ _ => (pe_cc c_is_within hr (by first | decide | exact Nat.le_refl _) rfl (pa_cons (pv 1) (pa_cons (pe_int) (pa_cons (C8.pe_gc (v := .int 200) rfl T.g_MOST_GENERATORS) pa_nil)))))) pa_nil))))
      (pss_one (ps_ret (pe_bl)))
      pss_nil)
    (pss_cons (ps_set (i := 2) sc.nd rfl (.inl rfl) (pe_int))
    (pss_cons (ps_for PassesOwn.never rfl (show PI _ _ _ (iSeq K _) from pi_seq (pv 0)) (pg_name (i := 1) sc.nd rfl (.inl rfl))
      (pss_one (ps_set (i := 2) sc.nd rfl (.inl rfl) (pe_callBfun cr_gcd (by rfl) T.m_gcd (pa_cons (pv 2) (pa_cons (pv 1) pa_nil))))))
    (pss_one (ps_ret (pe_cmpR op_eq (pv 2) (pe_int) (nomark _)))))))), ?_⟩
  walk_at "st"
  refine ⟨(v, d), w, rfl, hc, ⟨rfl, hv⟩, fun r u le hu e => ?_⟩
  subst e
  have hu : u.c ≤ w.c + 0 := hu
  walk_at "st"
  by_cases hL : isL d = true
  · rw [hL]
    obtain ⟨a, xs, rfl, sa, da⟩ := seq_of hv (by rw [← isL_seq]; exact hL)
    have su : ∀ {u' : Wo}, Le w u' → SqS K u'.h a xs := fun l => (sa.mono l.k).mono (Wo.ext _)
    walk_at "st"
    refine len_s (su le) ?_
    rw [da.length]
    walk_at "st"
    have bad : ∀ {u' : Wo}, Le w u' → u'.c ≤ w.c + 0 → gensOK d = false → Q (.bl false) u'.h := fun l c e => q _ _ l c (by rw [e])
    refine ite_b (fun e1 => ?_) (fun e1 => ?_)
    rotate_left
    · walk_at "st"
      exact bad le hu (by unfold gensOK; rw [show decide (1 ≤ (itemsD d).length) = false from decide_eq_false (by have := of_decide_eq_false e1; omega)]; simp)
    walk_at "st"
    by_cases e2 : (itemsD d).length ≤ 200
    rotate_left
    · rw [show decide ((((itemsD d).length : Nat) : Int) ≤ 200) = false from decide_eq_false (by omega)]
      walk_at "st"
      exact bad le hu (by unfold gensOK; rw [show decide ((itemsD d).length ≤ 200) = false from decide_eq_false e2]; simp)
    rw [show decide ((((itemsD d).length : Nat) : Int) ≤ 200) = true from decide_eq_true (by omega)]
    walk_at "st"
    have e1' := of_decide_eq_true e1
    have hl := da.length
    refine lc_seq (sa.mono le.k) (lc_map (fun _ => true) (fun i => V.bl (isW 1 200 ((itemsD d).getD i .none))) (by omega) (fun i x u1 hi hx lu cu Qy Qn qy qn => ?_) (fun p u1 lu cu np hp kp => ?_))
    · obtain ⟨di, hdi, dx⟩ := da.get hx
      refine x_gn ⟨rfl, ?_⟩
      walk_at "st"
      refine ⟨(x, di, 1, 200), u1, rfl, by show u1.c + 0 ≤ MAXC; omega, ⟨rfl, dx.mono (le.trans lu).k⟩, fun r u2 l2 c2 e => ?_⟩
      subst e
      have := qy rfl u2 l2 (Nat.le_antisymm c2 l2.c)
      rw [List.getD_eq_getElem?_getD, hdi] at this
      exact this
    · have eg : Evl.given xs.length (fun _ => true) (fun i => V.bl (isW 1 200 ((itemsD d).getD i .none))) = ((itemsD d).map (isW 1 200)).map V.bl := by
        rw [hl, given_list (itemsD d) (fun _ => true) (fun x => V.bl (isW 1 200 x)) _ _ (fun _ _ _ => rfl) (fun i x hx _ => by rw [List.getD_eq_getElem?_getD, hx]; rfl)]
        rw [List.filter_eq_self.mpr (fun _ _ => rfl), List.map_map]
        rfl
      rw [eg] at hp
      have lw := le.trans lu
      walk_at "st"
      refine all_s (.inl (.inl hp)) ?_
      rw [List.all_map]
      by_cases e3 : (itemsD d).all (isW 1 200) = true
      rotate_left
      · have e4 : (itemsD d).all (isW 1 200) = false := Bool.eq_false_iff.mpr e3
        rw [show (itemsD d).all (id ∘ isW 1 200) = false from e4]
        walk_at "st"
        exact bad lw (by omega) (by unfold gensOK; rw [e4]; simp)
      rw [show (itemsD d).all (id ∘ isW 1 200) = true from e3]
      walk_at "st"
      obtain ⟨ns, hns⟩ := ints_of e3
      have hx : xs = ns.map V.int := by
        rw [hns] at da
        exact da.vints
      subst hx
      rw [List.length_map] at hl
      refine for_seq (sa.mono lw.k) (Lk.refl _) ⟨fun i σ v => ∃ t, σ = [some (.ref a), t, some (.int ((gcdL (ns.take i) : Nat) : Int))] ∧ Le w v ∧ v.c ≤ w.c + 0 ∧ Lk u1 v, ⟨none, rfl, lw, by omega, Lk.refl _⟩, fun i σ v _ h => h.choose_spec.2.2.2, ?_, ?_⟩
      · rintro i x σ v hi hx ⟨t, rfl, lv, cv, lk⟩
        obtain ⟨n, hn, rfl⟩ := map_get hx
        walk_at "st"
        refine ⟨_, _, rfl, ?_⟩
        walk_at "st"
        refine ⟨v, rfl, some (.int n), ?_, lv, cv, lk⟩
        show [some (V.ref a), some (V.int n), some (V.int _)] = _
        rw [List.take_add_one, hn]
        unfold gcdL
        rw [List.foldl_append]
        rfl
      · rintro σ v ⟨t, rfl, lv, cv, lk⟩
        walk_at "st"
        refine q _ v lv cv ?_
        rw [List.length_map, List.take_length]
        have eg : gcdD (itemsD d) = gcdL ns := by
          rw [hns]
          unfold gcdD gcdL
          rw [List.foldl_map]
        unfold gensOK
        rw [hL, e3, eg, decide_eq_true (show 1 ≤ (itemsD d).length by omega), decide_eq_true e2]
        congr 1
        simp only [Bool.and_self, Bool.true_and]
        exact decide_eq_decide.mpr (by omega)
  · have e := Bool.eq_false_iff.mpr hL
    rw [e]
    walk_at "st"
    exact q _ u le hu (by unfold gensOK; rw [e]; rfl)
where
  ints_of : ∀ {ds : List PyData}, ds.all (isW 1 200) = true → ∃ ns : List Int, ds = ns.map PyData.int
    | [], _ => ⟨[], rfl⟩
    | d :: r, h => by
      rw [List.all_cons, Bool.and_eq_true] at h
      obtain ⟨ns, e⟩ := ints_of h.2
      cases d with
      | int i => exact ⟨i :: ns, by rw [e]; rfl⟩
      | _ => exact absurd h.1 (by simp [isW])
  map_get {ns : List Int} {i : Nat} {x : V} (h : (ns.map V.int)[i]? = some x) : ∃ n, ns[i]? = some n ∧ x = .int n := by
    rw [List.getElem?_map] at h
    cases e : ns[i]? with
    | none => rw [e] at h; cases h
    | some n => rw [e] at h; exact ⟨n, rfl, (Option.some.inj h).symm⟩
end

end Sb
set_option Elab.async false
set_option linter.all false
set_option maxRecDepth 100000
set_option maxHeartbeats 4000000
namespace Sb
open PySem PySem.Spec PyProof.Rows L2
open C8 (fnScope_by)
local macro_rules | `(tactic| walk_at "st") => `(tactic| repeat (first
  | ((with_reducible refine' x_var ?hvar ?_); (case hvar => rfl)) | with_reducible refine x_c ?_ | with_reducible refine x_op ?_ | with_reducible refine x_un ?_ | with_reducible refine x_test ?_ | with_reducible refine x_tb ?_
  | with_reducible refine x_and ?_ | with_reducible refine x_or ?_ | with_reducible refine x_not ?_ | with_reducible refine x_andV ?_ | with_reducible refine x_orV ?_ | with_reducible refine x_notV ?_ | with_reducible refine x_if ?_
  | with_reducible refine x_nil ?_ | with_reducible refine x_cons ?_ | with_reducible refine x_cb ?_ | with_reducible refine x_call ?_ | with_reducible refine x_callS ?_ | with_reducible refine x_callKS ?_ | with_reducible refine x_chain ?_ | with_reducible refine x_sl ?_
  | with_reducible refine x_part ?_ | with_reducible refine x_nopart ?_ | with_reducible refine x_seq ?_ | with_reducible refine x_asg ?_ | with_reducible refine x_gn ?_ | with_reducible refine x_gsub ?_ | with_reducible refine x_par ?_ | with_reducible refine x_par3 ?_
  | with_reducible refine x_ret ?_ | with_reducible refine x_drop ?_ | with_reducible refine x_ifS ?_ | with_reducible refine x_next ?_ | with_reducible refine x_I0 ?_ | with_reducible refine x_U ?_ | with_reducible refine x_eqI ?_
  | with_reducible refine x_eqS ?_ | with_reducible refine x_bm ?_ | with_reducible refine x_tup ?_ | with_reducible refine x_lst ?_ | with_reducible refine x_lstRg ?_ | with_reducible refine x_rg1 ?_ | with_reducible refine x_rg2 ?_
  | with_reducible refine x_forL ?_ | with_reducible refine x_forS ?_ | with_reducible refine x_forT ?_ | with_reducible refine x_forR1 ?_ | with_reducible refine x_forR2 ?_ | with_reducible refine x_lcL ?_ | with_reducible refine x_lcS ?_ | with_reducible refine x_lcR1 ?_ | with_reducible refine x_lcR2 ?_
  | with_reducible refine x_yes ?_ | with_reducible refine x_mkO ?_ | with_reducible refine x_dget ?_ | with_reducible refine x_din ?_ | with_reducible refine x_dnotin ?_ | with_reducible refine x_dput ?_ | with_reducible refine x_forR3 ?_ | with_reducible refine x_lcR3 ?_ | with_reducible refine x_lcD ?_ | with_reducible refine x_lc2R ?_
  | with_reducible refine iteF ?_ | with_reducible refine iteT ?_ | with_reducible refine iteNF ?_ | with_reducible refine iteNT ?_ | with_reducible refine ⟨_, rfl, ?_⟩ | with_reducible refine ⟨_, _, rfl, ?_⟩ | with_reducible refine ⟨_, _, rfl, rfl, ?_⟩))

/-! ### the errors -/
structure SEr (K : PySem.W.Frag) (mg : Str → Option Value) (b : Str) : Prop where
  ex : ∃ SE : Addr, mg b = some (.ref SE) ∧ ClX.CRead K SE (.type "type") ∧ PySem.W.findCls K (.ref SE) (.type "type") "__init__" = some (.val (.builtin "ValueError.__init__"))
theorem x_vei {K : PySem.W.Frag} {σ : L2.St} {H : Hp} {Q : VK} {a C : Addr} {t : Str} (T : OexC K C) (ha : H a = some (exo a C none)) (hl : [V.str t].length ≤ 1000) (q : Q .non H) {i : Nat} (hi : σ[i]? = some (some (.ref a)) := by rfl) : tVeI K (tCons (tVar i) (tCons (tC (.str t)) tNil)) σ H Q :=
  ⟨.ref a, hi, a, C, [.str t], rfl, hl, T, ha, q⟩
theorem x_ost {K : PySem.W.Frag} {σ : L2.St} {H : Hp} {D : Ends} {a C : Addr} {f : Str} {v : V} {i j : Nat} (T : OexC K C) (ha : H a = some (exo a C none)) (fld : PySem.W.findIn K (.ref C) f = some none) (q : ∀ dx, H dx = none → dx ≠ a → D.nx σ (upd (upd H dx (exd dx [(f, v)])) a (exo a C (some dx))))
    (hi : σ[i]? = some (some (.ref a)) := by rfl) (hj : σ[j]? = some (some v) := by rfl) : tOst K f (tVar i) (tVar j) D σ H :=
  ⟨v, hj, .ref a, hi, a, C, rfl, T, fld, .inl ⟨ha, q⟩⟩
abbrev s_ini_InvalidNumber : Stmt := (C8.clsBody (topS 3)).getD 0 (.Pass ⟨0, 0, 0, 0⟩)
theorem sc_ini_InvalidNumber : FnScope ["self", "given"] ["self", "given"] (defScope s_ini_InvalidNumber) := fnScope_by (by decide +kernel)
theorem xc_InvalidNumber {P : Program} {w : World} {K : PySem.W.Frag} {mg : Str → Option Value} {base : Heap} {C : Addr} (S : SEr K mg "SemigroupError") (T : OexC K C) (xf : XfC K C) (m : mg "InvalidNumber" = some (.ref C)) (fld : PySem.W.findIn K (.ref C) "given" = some none)
    (F : ∃ (fI : Addr) (fd : FuncData), Fun K "__init__" "InvalidNumber.__init__" s_ini_InvalidNumber fI fd ∧ PySem.W.findIn K (.ref C) "__init__" = some (some (.ref fI)) ∧ PySem.W.typeIn K (.ref fI) = some (.type "function")) : XcD P w K mg base "InvalidNumber" C "given" (SpIni C "given") := by
  have sc := sc_ini_InvalidNumber
  obtain ⟨fI, fd, F, iC, tI⟩ := F
  obtain ⟨SE, sm, srd, sat⟩ := S.ex
  refine ⟨T, xf, m, fld, fI, fd, ["self", "given"], iC, tI, ini_ok F sc rfl T (fun cdv A outer s H a v Q E ha hq => ?_), F.binds fun _ _ _ _ _ _ us hl => match us, hl with | [_, _], _ => rfl⟩
  refine ⟨_, (pss_cons (ps_expr (pe_seinit rfl sm srd sat (pa_cons (pv 0) (pa_cons (pe_str) pa_nil)))) (pss_one (ps_ost (pv 0) (pv 1)))), ?_⟩
  walk_at "st"
  refine x_vei T ha (by show 1 ≤ 1000; decide) ?_
  walk_at "st"
  exact x_ost T ha fld hq

abbrev s_ini_InvalidGenerators : Stmt := (C8.clsBody (topS 4)).getD 0 (.Pass ⟨0, 0, 0, 0⟩)
theorem sc_ini_InvalidGenerators : FnScope ["self", "given"] ["self", "given"] (defScope s_ini_InvalidGenerators) := fnScope_by (by decide +kernel)
theorem xc_InvalidGenerators {P : Program} {w : World} {K : PySem.W.Frag} {mg : Str → Option Value} {base : Heap} {C : Addr} (S : SEr K mg "SemigroupError") (T : OexC K C) (xf : XfC K C) (m : mg "InvalidGenerators" = some (.ref C)) (fld : PySem.W.findIn K (.ref C) "given" = some none)
    (F : ∃ (fI : Addr) (fd : FuncData), Fun K "__init__" "InvalidGenerators.__init__" s_ini_InvalidGenerators fI fd ∧ PySem.W.findIn K (.ref C) "__init__" = some (some (.ref fI)) ∧ PySem.W.typeIn K (.ref fI) = some (.type "function")) : XcD P w K mg base "InvalidGenerators" C "given" (SpIni C "given") := by
  have sc := sc_ini_InvalidGenerators
  obtain ⟨fI, fd, F, iC, tI⟩ := F
  obtain ⟨SE, sm, srd, sat⟩ := S.ex
  refine ⟨T, xf, m, fld, fI, fd, ["self", "given"], iC, tI, ini_ok F sc rfl T (fun cdv A outer s H a v Q E ha hq => ?_), F.binds fun _ _ _ _ _ _ us hl => match us, hl with | [_, _], _ => rfl⟩
  refine ⟨_, (pss_cons (ps_expr (pe_seinit rfl sm srd sat (pa_cons (pv 0) (pa_cons (pe_str) pa_nil)))) (pss_one (ps_ost (pv 0) (pv 1)))), ?_⟩
  walk_at "st"
  refine x_vei T ha (by show 1 ≤ 1000; decide) ?_
  walk_at "st"
  exact x_ost T ha fld hq

section
variable {P : Program} {w : World} {K : PySem.W.Frag} {mg : Str → Option Value} {base : Heap}
abbrev s_check_generators : Stmt := topS 13
theorem sc_check_generators : FnScope ["generators"] ["generators"] (defScope s_check_generators) := fnScope_by (by decide +kernel)
theorem bi_check_generators : BindsBy "check_generators" s_check_generators ["generators"] := fun _ _ _ _ _ _ us hl => match us, hl with | [_], _ => rfl
abbrev sp_check_generators (K : PySem.W.Frag) (CG : Addr) : Sp := SpX (γ := V × PyData) (fun _ => 0) (fun g w vs => vs = [g.1] ∧ Dat K w.k g.1 g.2) (fun g w r u => r = .non ∧ gensOK g.2 = true) (fun g w cls fs u => gensOK g.2 = false ∧ cls = .ref CG ∧ fs = [(("given" : Str), g.1)])
theorem c_check_generators {CG : Addr} (D : Df K mg "check_generators" s_check_generators) (c_are_generators : Cal P w K mg base CX0 3 "are_generators" ["value"] (sp_are_generators K)) (c_InvalidGenerators : XcD P w K mg base "InvalidGenerators" CG "given" (SpIni CG "given")) :
    Cal P w K mg base (L2.CX P w) 4 "check_generators" ["generators"] (sp_check_generators K CG) := by
  have sc := sc_check_generators
  refine D.calX sc bi_check_generators (fun g w vs h => by rw [h.1]; rfl) (fun qual f cdv A outer s E g w vs Q hr hc hp q qx => ?_)
  obtain ⟨v, d⟩ := g
  dsimp only at hp hc q qx
  obtain ⟨rfl, hv⟩ := hp
  refine ⟨_, (pss_one (ps_if (pt_not (pt_val (pe_cc c_are_generators hr (by first | decide | exact Nat.le_refl _) rfl (pa_cons (pv 0) pa_nil))))
      (pss_one (ps_raise rfl (takes_of rfl rfl rfl rfl) (pmk_xc c_InvalidGenerators hr (by decide) rfl (pa_cons (pv 0) pa_nil))))
      pss_nil)), ?_⟩
  walk_at "st"
  refine ⟨(v, d), w, rfl, hc, ⟨rfl, hv⟩, fun r u le hu e => ?_⟩
  subst e
  have hu : u.c ≤ w.c + 0 := hu
  walk_at "st"
  cases e : gensOK d with
  | true =>
    walk_at "st"
    exact q _ u le hu ⟨rfl, e⟩
  | false =>
    walk_at "st"
    refine mk_w fun dd z lz cz _ hz => ?_
    exact qx _ dd _ z (le.trans lz) (by omega) ⟨e, rfl, rfl⟩ hz
end

end Sb
set_option Elab.async false
set_option linter.all false
set_option maxRecDepth 100000
set_option maxHeartbeats 4000000
namespace Sb
open PySem PySem.Spec PyProof.Rows L2
open C8 (fnScope_by)
local macro_rules | `(tactic| walk_at "st") => `(tactic| repeat (first
  | ((with_reducible refine' x_var ?hvar ?_); (case hvar => rfl)) | with_reducible refine x_c ?_ | with_reducible refine x_op ?_ | with_reducible refine x_un ?_ | with_reducible refine x_test ?_ | with_reducible refine x_tb ?_
  | with_reducible refine x_and ?_ | with_reducible refine x_or ?_ | with_reducible refine x_not ?_ | with_reducible refine x_andV ?_ | with_reducible refine x_orV ?_ | with_reducible refine x_notV ?_ | with_reducible refine x_if ?_
  | with_reducible refine x_nil ?_ | with_reducible refine x_cons ?_ | with_reducible refine x_cb ?_ | with_reducible refine x_call ?_ | with_reducible refine x_callS ?_ | with_reducible refine x_callKS ?_ | with_reducible refine x_chain ?_ | with_reducible refine x_sl ?_
  | with_reducible refine x_part ?_ | with_reducible refine x_nopart ?_ | with_reducible refine x_seq ?_ | with_reducible refine x_asg ?_ | with_reducible refine x_gn ?_ | with_reducible refine x_gsub ?_ | with_reducible refine x_par ?_ | with_reducible refine x_par3 ?_
  | with_reducible refine x_ret ?_ | with_reducible refine x_drop ?_ | with_reducible refine x_ifS ?_ | with_reducible refine x_next ?_ | with_reducible refine x_I0 ?_ | with_reducible refine x_U ?_ | with_reducible refine x_eqI ?_
  | with_reducible refine x_eqS ?_ | with_reducible refine x_bm ?_ | with_reducible refine x_tup ?_ | with_reducible refine x_lst ?_ | with_reducible refine x_lstRg ?_ | with_reducible refine x_rg1 ?_ | with_reducible refine x_rg2 ?_
  | with_reducible refine x_forL ?_ | with_reducible refine x_forS ?_ | with_reducible refine x_forT ?_ | with_reducible refine x_forR1 ?_ | with_reducible refine x_forR2 ?_ | with_reducible refine x_lcL ?_ | with_reducible refine x_lcS ?_ | with_reducible refine x_lcR1 ?_ | with_reducible refine x_lcR2 ?_
  | with_reducible refine x_yes ?_ | with_reducible refine x_mkO ?_ | with_reducible refine x_dget ?_ | with_reducible refine x_din ?_ | with_reducible refine x_dnotin ?_ | with_reducible refine x_dput ?_ | with_reducible refine x_forR3 ?_ | with_reducible refine x_lcR3 ?_ | with_reducible refine x_lcD ?_ | with_reducible refine x_lc2R ?_
  | with_reducible refine iteF ?_ | with_reducible refine iteT ?_ | with_reducible refine iteNF ?_ | with_reducible refine iteNT ?_ | with_reducible refine ⟨_, rfl, ?_⟩ | with_reducible refine ⟨_, _, rfl, ?_⟩ | with_reducible refine ⟨_, _, rfl, rfl, ?_⟩))

/-! ### the nearest one, the least members of all rests -/
section
variable {P : Program} {w : World} {K : PySem.W.Frag} {mg : Str → Option Value} {base : Heap}
abbrev s_nearest : Stmt := topS 14
theorem sc_nearest : FnScope ["least", "done", "left", "rest", "number"] ["least", "done"] (defScope s_nearest) := fnScope_by (by decide +kernel)
theorem bi_nearest : BindsBy "nearest" s_nearest ["least", "done"] := fun _ _ _ _ _ _ us hl => match us, hl with | [_, _], _ => rfl
abbrev dI (f : Int → Int) : Int → V := fun k => .int (f k)
abbrev dT : Int → V := fun _ => .bl true
/-- an owned dict -/
structure OwnD (w : Wo) (a : Addr) (ks : List Int) (g : Int → V) : Prop where
  h : w.h a = some (.dK (mkD ks g))
  k : w.k a = none
  b : w.b ≠ some a
theorem OwnD.le {w v : Wo} {a : Addr} {ks : List Int} {g : Int → V} (o : OwnD w a ks g) (l : Le w v) : OwnD v a ks g := ⟨l.h a _ o.b o.h, l.own a _ o.h o.k, by rw [l.b]; exact o.b⟩
theorem own_put {w0 w : Wo} (e : Le w0 w) {p : Addr} {ks ks' : List Int} {g g' : Int → V} (o : OwnD w p ks g) (h0 : w0.h p = none) :
    ∃ v : Wo, v.h = upd w.h p (.dK (mkD ks' g')) ∧ v.k = w.k ∧ v.c = w.c ∧ Le w0 v ∧ Lk w v ∧ OwnD v p ks' g' ∧ ∀ q ks2 g2, q ≠ p → OwnD w q ks2 g2 → OwnD v q ks2 g2 := by
  obtain ⟨v, h1, h2, h3, h4, h5, h6, h7⟩ := put_w (o' := .dK (mkD ks' g')) e o.h o.k h0
  exact ⟨v, h1, h2, h3, h4, h5, ⟨h6, h7, by rw [h5.b]; exact o.b⟩, fun q ks2 g2 ne o2 => ⟨by rw [h1, upd_ne ne]; exact o2.h, by rw [h2]; exact o2.k, by rw [h5.b]; exact o2.b⟩⟩
abbrev sp_nearest : Sp := SpG (γ := Addr × Addr × List Int × (Int → Int) × List Int) (fun _ => 0) (fun g w vs => vs = [.ref g.1, .ref g.2.1] ∧ OwnD w g.1 g.2.2.1 (dI g.2.2.2.1) ∧ OwnD w g.2.1 g.2.2.2.2 dT ∧ g.1 ≠ g.2.1 ∧ g.2.2.1.length ≤ 1000)
  (fun g w r u => (r = .non ∧ ∀ k ∈ g.2.2.1, k ∈ g.2.2.2.2) ∨ ∃ h, r = .int h ∧ h ∈ g.2.2.1 ∧ h ∉ g.2.2.2.2 ∧ ∀ k ∈ g.2.2.1, k ∉ g.2.2.2.2 → g.2.2.2.1 h ≤ g.2.2.2.1 k)
def leftOf (ks : List Int) (f : Int → Int) (ds : List Int) : List (Int × Int) := (ks.filter fun k => !decide (k ∈ ds)).map fun k => (f k, k)
theorem leftOf_mem {ks : List Int} {f : Int → Int} {ds : List Int} {p : Int × Int} : p ∈ leftOf ks f ds ↔ p.2 ∈ ks ∧ p.2 ∉ ds ∧ p.1 = f p.2 := by
  unfold leftOf
  rw [List.mem_map]
  constructor
  · rintro ⟨k, hk, rfl⟩
    have := List.mem_filter.mp hk
    exact ⟨this.1, by simpa using this.2, rfl⟩
  · rintro ⟨h1, h2, h3⟩
    exact ⟨p.2, List.mem_filter.mpr ⟨h1, by simpa using h2⟩, by rw [← h3]⟩
theorem c_nearest (D : Df K mg "nearest" s_nearest) (T : Tx mg) : Cal P w K mg base CX0 1 "nearest" ["least", "done"] sp_nearest := by
  have sc := sc_nearest
  refine D.cal sc bi_nearest (fun g w vs h => by rw [h.1]; rfl) (fun qual f cdv A outer s E g w vs Q hr hc hp q => ?_)
  obtain ⟨a, b, ks, fn, ds⟩ := g
  dsimp only at hp hc q
  obtain ⟨rfl, oa, ob, nab, hz⟩ := hp
  refine ⟨_, (pss_cons (ps_lock (ps_setLc (i := 2) rfl sc.nd rfl rfl (sw_true rfl rfl rfl (by decide +kernel))  (own := [("rest", 3), ("number", 4)]) (pi_items (pv 0)) (blkOk_by (N := ["least", "done", "left", "rest", "number"]) (sc := defScope s_nearest) (by decide +kernel)) (fun _ _ _ _ _ => (show PG _ _ (gTup K 2 _) from (pg_tup rfl (pgs_cons (pg_name (i := 3) sc.nd rfl (.inl rfl)) (pgs_cons (pg_name (i := 4) sc.nd rfl (.inl rfl)) pgs_nil))))) (fun _ _ _ _ _ => (pts_one (pt_cmp (pc_dnotin (hu_of hr) (pv 3) (pv 1)) (by rfl)))) (fun _ _ _ _ _ => (pe_tup (pa_cons (pv 4) (pa_cons (pv 3) pa_nil))))))
    (pss_one (ps_ret (pe_ifExp (pt_cmpR (show OpR _ _ (rNeD K) from (op_neD hr.units)) (pv 2) (pe_lst pa_nil) (nomark _)) (pe_ix (show IxR _ (rIx K) from ix_seq) (pe_callB (show CallR _ _ (rMinP K) from (cr_minP rfl hr.units)) (by rfl) T.m_min boot_min (pa_cons (pv 2) pa_nil)) (pe_int) (fun _ _ => rfl)) (pe_non))))), ?_⟩
  walk_at "st"
  refine x_lock oa.h trivial oa.k oa.b fun od v vk vc vb vh fin => ?_
  walk_at "st"
  have hva : v.h a = some (.frz od (.dK (mkD ks (dI fn)))) := by rw [vh]; exact upd_same
  have hvb : OwnD v b ds dT := ⟨by rw [vh, upd_ne nab.symm]; exact ob.h, by rw [vk]; exact ob.k, by rw [vb]; exact ob.b⟩
  refine lc_items hva (by rw [vb]; exact oa.b) 0 (fun i acc kk => prsAt K kk acc (leftOf (ks.take i) fn ds)) .nil (by rw [mkD_len]; omega) (fun i acc k k' e h => prsAt_mono e h) (fun i k x T' acc v1 hkx l1 c1 hT hI Qy Qn qy qn => ?_) (fun p xs v1 l1 c1 np hp kp hI => ?_)
  · obtain ⟨n, hn, rfl, rfl⟩ := mkD_get hkx
    refine gt2 (.inl (.inl (v1.ext _ _ hT))) ?_ gn_mono gn_mono
    walk_at "st"
    refine ⟨rfl, ?_⟩
    walk_at "st"
    refine dnotin_i (k := n) (hvb.le l1).h ?_
    walk_at "st"
    have take1 : leftOf (ks.take (i + 1)) fn ds = leftOf (ks.take i) fn ds ++ leftOf [n] fn ds := by
      unfold leftOf
      rw [List.take_add_one, hn, List.filter_append, List.map_append]
      rfl
    refine ite_b (fun e => ?_) (fun e => ?_)
    · walk_at "st"
      have e' : leftOf [n] fn ds = [(fn n, n)] := by
        unfold leftOf
        rw [List.filter_cons_of_pos (p := fun k => !decide (k ∈ ds)) e]
        rfl
      rw [e'] at take1
      refine tup_k (by show 2 ≤ 1000000; decide) fun p u lu cu np hp => ?_
      refine qy _ u lu (by omega) ?_
      rw [take1]
      exact prsAt_snoc (prsAt_mono lu.k hI) ⟨p, rfl, .inl (.inl hp)⟩
    · have e' : leftOf [n] fn ds = [] := by
        unfold leftOf
        rw [List.filter_cons_of_neg (p := fun k => !decide (k ∈ ds)) (by rw [e]; decide)]
        rfl
      rw [e', List.append_nil] at take1
      refine qn v1 (Le.refl _) (by omega) ?_
      rw [take1]
      exact hI
  · rw [mkD_len, List.take_length] at hI
    walk_at "st"
    obtain ⟨hf, z, zh, zk, zc, zb, lz⟩ := fin v1 l1
    refine ⟨hf, ?_⟩
    rw [← zh]
    have np' : p ≠ a := fun e => by
      rw [e, hva] at np
      cases np
    have hzp : z.h p = some (.lst xs) := by rw [zh, upd_ne np']; exact hp
    have hI' : prsAt K z.h xs (leftOf ks fn ds) := prsAt_mono (by rw [← zk]; exact z.ext) hI
    have zle : z.c ≤ w.c + 0 := by
      rw [zc]
      omega
    walk_at "st"
    refine lst_k (by show 0 ≤ 1000000; decide) fun p2 u lu cu np2 hp2 => ?_
    have hup : u.h p = some (.lst xs) := lu.h p _ (by rw [zb, l1.b]; exact fun e => l1.nobox np (by rw [l1.b]; exact e)) hzp
    have hI2 : prsAt K u.h xs (leftOf ks fn ds) := prsAt_mono (by
      have := lu.k.trans u.ext
      rw [zk] at this
      exact this) hI
    refine neNil_prs (.inl (.inl hup)) hI2 (u.ext _ _ hp2) ?_
    walk_at "st"
    cases hne : leftOf ks fn ds with
    | nil =>
      refine iteNT ?_
      walk_at "st"
      refine q _ u (lz.trans lu) (by omega) (.inl ⟨rfl, fun k hk => ?_⟩)
      refine Decidable.byContradiction fun hn => ?_
      have : (fn k, k) ∈ leftOf ks fn ds := leftOf_mem.mpr ⟨hk, hn, rfl⟩
      rw [hne] at this
      cases this
    | cons p0 r0 =>
      refine iteNF ?_
      walk_at "st"
      refine minP_s (.inl (.inl hup)) hI2 (by rw [hne]; simp) fun t pp hpp hA ht => ?_
      walk_at "st"
      refine ix_s (.inr ht) (i := 1) (by rfl) ?_
      obtain ⟨m1, m2, m3⟩ := leftOf_mem.mp hpp
      refine q _ u (lz.trans lu) (by omega) (.inr ⟨pp.2, rfl, m1, m2, fun k hk hn => ?_⟩)
      have := hA (fn k, k) (leftOf_mem.mpr ⟨hk, hn, rfl⟩)
      unfold Ahead at this
      rw [← m3]
      dsimp only at this
      omega
abbrev s_least_members : Stmt := topS 15
theorem sc_least_members : FnScope ["generators", "m", "least", "done", "here", "step", "there", "number", "rest"] ["generators", "m"] (defScope s_least_members) := fnScope_by (by decide +kernel)
theorem bi_least_members : BindsBy "least_members" s_least_members ["generators", "m"] := fun _ _ _ _ _ _ us hl => match us, hl with | [_, _], _ => rfl
abbrev sp_least_members (K : PySem.W.Frag) : Sp := SpG (γ := Addr × List Int × Int) (fun _ => 0) (fun g w vs => vs = [.ref g.1, .int g.2.2] ∧ SqS K w.k g.1 (g.2.1.map V.int) ∧ Gn g.2.1 ∧ 1 ≤ g.2.2 ∧ g.2.2 ≤ 200)
  (fun g w r u => ∃ p f, r = .ref p ∧ u.k p = some (.lst ((tab g.2.2 f).map V.int)) ∧ IsLeast g.2.1 g.2.2 f)
theorem c_least_members (D : Df K mg "least_members" s_least_members) (T : Tx mg) (c_nearest : Cal P w K mg base CX0 1 "nearest" ["least", "done"] sp_nearest) : Cal P w K mg base CX0 2 "least_members" ["generators", "m"] (sp_least_members K) := by
  have sc := sc_least_members
  refine D.cal sc bi_least_members (fun g w vs h => by rw [h.1]; rfl) (fun qual f cdv A outer s E g w vs Q hr hc hp q => ?_)
  obtain ⟨a, ns, m⟩ := g
  dsimp only at hp hc q
  obtain ⟨rfl, ha, G, m0, m1⟩ := hp
  refine ⟨_, (pss_cons (ps_asg (pe_tup (pa_cons (pe_disp (pps_cons (pe_int) (pe_int) pps_nil) (by rfl) (by rfl) (fun z => by cases z) (by decide)) (pa_cons (pe_dnewK) pa_nil))) (show PG _ _ (gTup K 2 _) from (pg_tup rfl (pgs_cons (pg_name (i := 2) sc.nd rfl (.inr rfl)) (pgs_cons (pg_name (i := 3) sc.nd rfl (.inl rfl)) pgs_nil)))))
    (pss_cons (ps_set (i := 4) sc.nd rfl (.inl rfl) (pe_int))
    (pss_cons (ps_while PassesOwn.never (pt_cmpR op_notNo (pv 4) (pe_non) (nomark _))
      (pss_cons (ps_dput (hu_of hr) (pv 3) (pv 4) (pe_bl) (by rfl))
      (pss_cons (ps_for PassesOwn.never rfl (show PI _ _ _ (iSeq K _) from pi_seq (pv 0)) (pg_name (i := 5) sc.nd rfl (.inl rfl))
        (pss_cons (ps_set (i := 6) sc.nd rfl (.inl rfl) (pe_op op_modN (pe_op op_add (pv 4) (pv 5)) (pv 1)))
        (pss_cons (ps_set (i := 7) sc.nd rfl (.inl rfl) (pe_op op_add (pe_dget (hu_of hr) (pv 2) (pv 4) (fun _ _ => rfl)) (pv 5)))
        (pss_one (ps_if (PW.pt (pw_or (pt_cmp (pc_dnotin (hu_of hr) (pv 6) (pv 2)) (by rfl)) (pw_or1 (pt_cmpR op_lt (pv 7) (pe_dget (hu_of hr) (pv 2) (pv 6) (fun _ _ => rfl)) (nomark _)))))
          (pss_one (ps_dput (hu_of hr) (pv 2) (pv 6) (pv 7) (by rfl)))
          pss_nil)))))
      (pss_one (ps_set (i := 4) sc.nd rfl (.inl rfl) (pe_cc c_nearest hr (by first | decide | exact Nat.le_refl _) rfl (pa_cons (pv 2) (pa_cons (pv 3) pa_nil))))))))
    (pss_one (ps_ret (pe_lc rfl sc.nd (own := [("rest", 8)]) (pi_range1 (by rfl) T.m_range (pa_cons (pv 1) pa_nil)) (blkOk_by (N := ["generators", "m", "least", "done", "here", "step", "there", "number", "rest"]) (sc := defScope s_least_members) (by decide +kernel)) (fun _ _ _ _ _ => (pg_name (i := 8) sc.nd rfl (.inl rfl))) (fun _ _ _ _ _ => pts_nil) (fun _ _ _ _ _ => (pe_dget (hu_of hr) (pv 2) (pv 8) (fun _ _ => rfl))))))))), ?_⟩
  walk_at "st"
  refine disp1 (k := 0) (v := .int 0) (fun _ _ z => z) (fun _ _ z => z) fun dl w1 le1 c1 n1 hd1 kd1 _ => ?_
  walk_at "st"
  refine dnew_o fun dd w2 le2 c2 n2 hd2 kd2 _ => ?_
  walk_at "st"
  refine tup_k (by show 2 ≤ 1000000; decide) fun p3 w3 le3 c3 n3 hp3 => ?_
  refine gt2 (.inl (.inl (w3.ext _ _ hp3))) ?_ gn_mono gn_mono
  walk_at "st"
  have fe : ∀ x : Int, x.fmod m = x % m := fun x => Int.fmod_eq_emod_of_nonneg x (by omega)
  have nl0 : w.h dl = none := n1
  have nd0 : w.h dd = none := le1.fresh n2
  have ne : dl ≠ dd := ne_of_none hd1 n2
  have od1 : OwnD w1 dl [0] (dI fun _ => 0) := ⟨hd1, kd1, le1.nobox n1⟩
  have od2 : OwnD w2 dd [] dT := ⟨hd2, kd2, (le1.trans le2).nobox nd0⟩
  have lw := (le1.trans le2).trans le3
  refine x_while (fun n σ v => ∃ ks fn ds here s5 s6 s7, σ = [some (.ref a), some (.int m), some (.ref dl), some (.ref dd), some here, s5, s6, s7, none] ∧ Le w v ∧ v.c ≤ w.c + 0 ∧ OwnD v dl ks (dI fn) ∧ OwnD v dd ds dT ∧ DJ ns m ks fn ds ∧ n + ds.length = m.toNat ∧
    ((here = .non ∧ ∀ k ∈ ks, k ∈ ds) ∨ ∃ h, here = .int h ∧ h ∈ ks ∧ h ∉ ds ∧ ∀ k ∈ ks, k ∉ ds → fn h ≤ fn k)) m.toNat
    ⟨[0], fun _ => 0, [], .int 0, none, none, none, rfl, lw, by omega, od1.le (le2.trans le3), od2.le le3, dj_start m0, rfl, .inr ⟨0, rfl, by simp, by simp, fun _ _ _ => Int.le_refl _⟩⟩ ?_ ?_
  rotate_left
  · rintro σ H A B h ⟨v, e, e2, k, e3, z⟩
    exact ⟨v, e, e2, k, e3, h _ _ z⟩
  rintro n σ v ⟨ks, fn, ds, here, s5, s6, s7, rfl, lv, cv, ol, od, J, hn, hh⟩
  walk_at "st"
  rcases hh with ⟨rfl, all⟩ | ⟨h, rfl, hk, hd, hmin⟩
  · refine notNo_no ?_
    walk_at "st"
    obtain ⟨L, fl⟩ := dj_done G (by omega) J all
    refine lc_r1 (by omega) (by omega) (lc_map (fun _ => true) (fun i => V.int (fn (i : Int))) (by omega) (fun i x u1 hi hx lu cu Qy Qn qy qn => ?_) (fun p u1 lu cu np hp kp => ?_))
    · subst hx
      refine x_gn ⟨rfl, ?_⟩
      walk_at "st"
      refine dget_i (k := 0 + (i : Int)) (ol.le lu).h (by
        rw [show (0 : Int) + (i : Int) = (i : Int) by omega]
        exact fl _ (by omega) (by omega)) ?_
      rw [show (0 : Int) + (i : Int) = (i : Int) by omega]
      exact qy rfl u1 (Le.refl _) rfl
    · have eg : Evl.given m.toNat (fun _ => true) (fun i => V.int (fn (i : Int))) = (tab m fn).map V.int := by
        have := given_list (List.range m.toNat) (fun _ => true) (fun i => V.int (fn (i : Int))) (fun _ => true) (fun i => V.int (fn (i : Int))) (fun _ _ _ => rfl) (fun i x hx _ => by
          rw [List.getElem?_range] at hx
          · rw [← Option.some.inj hx]
          · have := (List.getElem?_eq_some_iff.mp hx).1
            rwa [List.length_range] at this)
        rw [List.length_range] at this
        rw [this, List.filter_eq_self.mpr (fun _ _ => rfl)]
        unfold tab
        rw [List.map_map]
        rfl
      rw [eg] at hp
      have lz := lv.trans lu
      obtain ⟨z, zh, zk⟩ := frz_w lz np hp kp
      rw [← zh.1]
      exact q _ z zh.2.1 (by rw [zh.2.2]; omega) ⟨p, fn, rfl, zk, L⟩
  · refine notNo_yes (by intro z; cases z) ?_
    walk_at "st"
    refine dput_i (k := h) od.h (by have := rng_len J.dnd fun k hk => J.rng k (J.sub k hk); omega) ?_
    rw [if_neg hd, show (fun j => if j = h then V.bl true else dT j) = dT by funext j; split <;> rfl]
    obtain ⟨v2, h2, k2, c2, l2, lk2, o2, oth2⟩ := own_put (ks' := ds ++ [h]) (g' := dT) lv od nd0
    rw [← h2]
    have ol2 := oth2 dl _ _ ne ol
    have hsz : (ds ++ [h]).length ≤ m.toNat := rng_len (List.nodup_append.mpr ⟨J.dnd, by simp, fun x hx y hy => by
      rw [List.mem_singleton.mp hy]
      exact fun z => hd (z ▸ hx)⟩) fun k hk' => by
      rcases List.mem_append.mp hk' with z | z
      · exact J.rng k (J.sub k z)
      · rw [List.mem_singleton.mp z]; exact J.rng h hk
    rw [List.length_append, List.length_singleton] at hsz
    walk_at "st"
    refine for_seq (ha.mono l2.k) (Lk.refl _) ⟨fun i σ v => ∃ ks fn s5 s6 s7, σ = [some (.ref a), some (.int m), some (.ref dl), some (.ref dd), some (.int h), s5, s6, s7, none] ∧ Le w v ∧ v.c ≤ w.c + 0 ∧ Lk v2 v ∧ OwnD v dl ks (dI fn) ∧ OwnD v dd (ds ++ [h]) dT ∧ DI ns m ks fn ds h i,
      ⟨ks, fn, s5, s6, s7, rfl, l2, by omega, Lk.refl _, ol2, o2, di_start J hk hd hmin⟩, ?_, ?_, ?_⟩
    · rintro i σ v hi ⟨_, _, _, _, _, _, _, _, lk, _⟩
      exact lk
    · rintro i x σ v3 hi hx ⟨ks, fn, s5, s6, s7, rfl, l3, c3, lk3, ol3, od3, I⟩
      obtain ⟨g, hg, rfl⟩ := c_are_generators.map_get hx
      walk_at "st"
      refine x_fmod (by omega) ?_
      rw [fe]
      walk_at "st"
      refine dget_i (k := h) ol3.h I.hk ?_
      walk_at "st"
      refine dnotin_i (k := (h + g) % m) ol3.h ?_
      have hz : ks.length < 1000000 := by
        have := rng_len I.nd I.rng
        omega
      have put : (((h + g) % m ∉ ks) ∨ fn h + g < fn ((h + g) % m)) → ∀ R : Prop, (∀ v4 : Wo, v4.h = upd v3.h dl (.dK (mkD (if (h + g) % m ∈ ks then ks else ks ++ [(h + g) % m]) (fun j => if j = (h + g) % m then .int (fn h + g) else dI fn j))) → Le w v4 → v4.c ≤ w.c + 0 → Lk v2 v4 → OwnD v4 dl (if (h + g) % m ∈ ks then ks else ks ++ [(h + g) % m]) (dI fun j => if j = (h + g) % m then fn h + g else fn j) → OwnD v4 dd (ds ++ [h]) dT →
          DI ns m (if (h + g) % m ∈ ks then ks else ks ++ [(h + g) % m]) (fun j => if j = (h + g) % m then fn h + g else fn j) ds h (i + 1) → R) → R := fun hl R k => by
        obtain ⟨v4, h4, k4, c4, l4, lk4, o4, oth4⟩ := own_put (ks' := if (h + g) % m ∈ ks then ks else ks ++ [(h + g) % m]) (g' := dI fun j => if j = (h + g) % m then fn h + g else fn j) l3 ol3 nl0
        have eg : (fun j => if j = (h + g) % m then V.int (fn h + g) else dI fn j) = (dI fun j => if j = (h + g) % m then fn h + g else fn j) := by
          funext j
          show (if j = (h + g) % m then V.int (fn h + g) else .int (fn j)) = .int (if j = (h + g) % m then fn h + g else fn j)
          split <;> rfl
        rw [← eg] at h4
        exact k v4 h4 l4 (by omega) (lk3.trans lk4) o4 (oth4 dd _ _ ne.symm od3) (di_put I (by omega) G.pos hg hl)
      walk_at "st"
      refine ite_b (fun e => ?_) (fun e => ?_)
      · have e' : (h + g) % m ∉ ks := by simpa using e
        walk_at "st"
        refine dput_i (k := (h + g) % m) ol3.h hz ?_
        refine put (.inl e') _ fun v4 h4 l4 c4 lk4 o4 od4 I4 => ?_
        rw [← h4]
        exact ⟨v4, rfl, _, _, _, _, _, rfl, l4, c4, lk4, o4, od4, I4⟩
      · have e' : (h + g) % m ∈ ks := by simpa using e
        walk_at "st"
        refine dget_i (k := (h + g) % m) ol3.h e' ?_
        walk_at "st"
        refine ite_b (fun e2 => ?_) (fun e2 => ?_)
        · walk_at "st"
          refine dput_i (k := (h + g) % m) ol3.h hz ?_
          refine put (.inr (of_decide_eq_true e2)) _ fun v4 h4 l4 c4 lk4 o4 od4 I4 => ?_
          rw [← h4]
          exact ⟨v4, rfl, _, _, _, _, _, rfl, l4, c4, lk4, o4, od4, I4⟩
        · walk_at "st"
          exact ⟨v3, rfl, _, _, _, _, _, rfl, l3, c3, lk3, ol3, od3, di_skip I hg e' (by have := of_decide_eq_false e2; omega)⟩
    · rintro σ v3 ⟨ks, fn, s5, s6, s7, rfl, l3, c3, lk3, ol3, od3, I⟩
      rw [List.length_map] at I
      have J3 := di_end I
      walk_at "st"
      refine ⟨(dl, dd, ks, fn, ds ++ [h]), v3, rfl, by show v3.c + 0 ≤ MAXC; omega, ⟨rfl, ol3, od3, ne, by show ks.length ≤ 1000; have := rng_len I.nd I.rng; omega⟩, fun r u lu cu hr2 => ?_⟩
      have cu : u.c ≤ v3.c + 0 := cu
      refine ⟨n - 1, by omega, u, rfl, ks, fn, ds ++ [h], r, _, _, _, rfl, l3.trans lu, by omega, ol3.le lu, od3.le lu, J3, by rw [List.length_append, List.length_singleton]; omega, hr2⟩
end

end Sb
set_option Elab.async false
set_option linter.all false
set_option maxRecDepth 100000
set_option maxHeartbeats 4000000
namespace Sb
open PySem PySem.Spec PyProof.Rows L2
open C8 (fnScope_by)
local macro_rules | `(tactic| walk_at "st") => `(tactic| repeat (first
  | ((with_reducible refine' x_var ?hvar ?_); (case hvar => rfl)) | with_reducible refine x_c ?_ | with_reducible refine x_op ?_ | with_reducible refine x_un ?_ | with_reducible refine x_test ?_ | with_reducible refine x_tb ?_
  | with_reducible refine x_and ?_ | with_reducible refine x_or ?_ | with_reducible refine x_not ?_ | with_reducible refine x_andV ?_ | with_reducible refine x_orV ?_ | with_reducible refine x_notV ?_ | with_reducible refine x_if ?_
  | with_reducible refine x_nil ?_ | with_reducible refine x_cons ?_ | with_reducible refine x_cb ?_ | with_reducible refine x_call ?_ | with_reducible refine x_callS ?_ | with_reducible refine x_callKS ?_ | with_reducible refine x_chain ?_ | with_reducible refine x_sl ?_
  | with_reducible refine x_part ?_ | with_reducible refine x_nopart ?_ | with_reducible refine x_seq ?_ | with_reducible refine x_asg ?_ | with_reducible refine x_gn ?_ | with_reducible refine x_gsub ?_ | with_reducible refine x_par ?_ | with_reducible refine x_par3 ?_
  | with_reducible refine x_ret ?_ | with_reducible refine x_drop ?_ | with_reducible refine x_ifS ?_ | with_reducible refine x_next ?_ | with_reducible refine x_I0 ?_ | with_reducible refine x_U ?_ | with_reducible refine x_eqI ?_
  | with_reducible refine x_eqS ?_ | with_reducible refine x_bm ?_ | with_reducible refine x_tup ?_ | with_reducible refine x_lst ?_ | with_reducible refine x_lstRg ?_ | with_reducible refine x_rg1 ?_ | with_reducible refine x_rg2 ?_
  | with_reducible refine x_forL ?_ | with_reducible refine x_forS ?_ | with_reducible refine x_forT ?_ | with_reducible refine x_forR1 ?_ | with_reducible refine x_forR2 ?_ | with_reducible refine x_lcL ?_ | with_reducible refine x_lcS ?_ | with_reducible refine x_lcR1 ?_ | with_reducible refine x_lcR2 ?_
  | with_reducible refine x_yes ?_ | with_reducible refine x_mkO ?_ | with_reducible refine x_dget ?_ | with_reducible refine x_din ?_ | with_reducible refine x_dnotin ?_ | with_reducible refine x_dput ?_ | with_reducible refine x_forR3 ?_ | with_reducible refine x_lcR3 ?_ | with_reducible refine x_lcD ?_ | with_reducible refine x_lc2R ?_
  | with_reducible refine iteF ?_ | with_reducible refine iteT ?_ | with_reducible refine iteNF ?_ | with_reducible refine iteNT ?_ | with_reducible refine ⟨_, rfl, ?_⟩ | with_reducible refine ⟨_, _, rfl, ?_⟩ | with_reducible refine ⟨_, _, rfl, rfl, ?_⟩))

/-! ### minimal generators, gaps -/
section
variable {P : Program} {wd : World} {K : PySem.W.Frag} {mg : Str → Option Value} {base : Heap}
abbrev s_minimal_of : Stmt := topS 16
theorem sc_minimal_of : FnScope ["generators", "found", "sums", "step", "number"] ["generators"] (defScope s_minimal_of) := fnScope_by (by decide +kernel)
theorem bi_minimal_of : BindsBy "minimal_of" s_minimal_of ["generators"] := fun _ _ _ _ _ _ us hl => match us, hl with | [_], _ => rfl
abbrev RMin (ns : List Int) (w : Wo) (r : V) (u : Wo) : Prop := ∃ p ns', r = .ref p ∧ Asc ns' ns ∧ u.k p = some (.tup ((minF ns').map V.int))
abbrev sp_minimal_of (K : PySem.W.Frag) : Sp := SpG (γ := Addr × List Int) (fun _ => 0) (fun g w vs => vs = [.ref g.1] ∧ SqS K w.k g.1 (g.2.map V.int) ∧ Gn g.2 ∧ g.2.length ≤ 60) (fun g w r u => RMin g.2 w r u)
theorem c_minimal_of (D : Df K mg "minimal_of" s_minimal_of) (T : Tx mg) : Cal P wd K mg base CX0 1 "minimal_of" ["generators"] (sp_minimal_of K) := by
  have sc := sc_minimal_of
  refine D.cal sc bi_minimal_of (fun g w vs h => by rw [h.1]; rfl) (fun qual f cdv A outer s E g w vs Q hr hc hp q => ?_)
  obtain ⟨a, ns⟩ := g
  dsimp only at hp hc q
  obtain ⟨rfl, ha, G, hlen⟩ := hp
  refine ⟨_, (pss_cons (ps_par (i := 1) (j := 2) rfl sc.nd rfl rfl (by decide) rfl rfl (pa_cons (pe_lst pa_nil) (pa_cons (pe_disp (pps_cons (pe_int) (pe_bl) pps_nil) (by rfl) (by rfl) (fun z => by cases z) (by decide)) pa_nil)) (by rfl))
    (pss_cons (ps_for PassesOwn.never rfl (show PI _ _ _ (iList K _) from pi_list (pe_callB (show CallR _ _ (rSortedSet _) from (cr_sortedSet rfl)) (by rfl) T.m_sorted boot_sorted (pa_cons (pe_callTy (show CallR _ _ (rSetI K _) from (cr_setI rfl)) (by rfl) T.m_set boot_set (pa_cons (pv 0) pa_nil)) pa_nil))) (pg_name (i := 3) sc.nd rfl (.inl rfl))
      (pss_one (ps_if (pt_cmp (pc_dnotin (hu_of hr) (pv 3) (pv 2)) (by rfl))
        (pss_cons (ps_expr (show PE _ _ (tBM K _ _ _ _) from pe_bm PySem.F.plainAttrs_list PySem.F.slot_list_append PySem.F.type_list_append mt_append (pv 1) (pa_cons (pv 3) pa_nil)))
        (pss_one (ps_for PassesOwn.never rfl (pi_range1 (by rfl) T.m_range (pa_cons (pe_op op_add (C8.pe_gc (v := .int 200) rfl T.g_MOST_GENERATORS) (pe_int)) pa_nil)) (pg_name (i := 4) sc.nd rfl (.inl rfl))
          (pss_one (ps_if (pt_cmp (pc_din (hu_of hr) (pe_op op_sub (pv 4) (pv 3)) (pv 2)) (by rfl))
            (pss_one (ps_dput (hu_of hr) (pv 2) (pv 4) (pe_bl) (by rfl)))
            pss_nil)))))
        pss_nil)))
    (pss_one (ps_ret (pe_callTy (show CallR _ _ (rTupleOf K) from cr_tupleOf) (by rfl) T.m_tuple boot_tuple (pa_cons (pv 1) pa_nil)))))), ?_⟩
  walk_at "st"
  refine lst_o (by show 0 ≤ 1000000; decide) fun fo w1 le1 c1 n1 hf1 kf1 _ => ?_
  walk_at "st"
  refine disp1 (k := 0) (v := .bl true) (fun _ _ z => z) (fun _ _ z => z) fun sd w2 le2 c2 n2 hd2 kd2 _ => ?_
  walk_at "st"
  have l2 := le1.trans le2
  have nf0 : w.h fo = none := n1
  have ns0 : w.h sd = none := le1.fresh n2
  have nfs : fo ≠ sd := ne_of_none hf1 n2
  refine setI_o ((ha.mono l2.k).mono w2.ext) hlen fun c hcn ps w3 le3 c3 hp3 => ?_
  walk_at "st"
  refine sortedSet_k hp3 (by omega) fun nz asc mem hl pl w4 le4 c4 n4 hp4 => ?_
  have l4 := (l2.trans le3).trans le4
  have l24 := le3.trans le4
  have A0 : Asc nz ns := ⟨asc, fun k => (mem k).trans (by simp)⟩
  have posz : ∀ x ∈ nz, 1 ≤ x ∧ x ≤ 200 := fun x hx => G.pos x ((A0.mem x).mp hx)
  refine for_lst (.inl (.inl (w4.ext _ _ hp4))) ⟨fun i σ v => ∃ t s4 ks, σ = [some (.ref a), some (.ref fo), some (.ref sd), t, s4] ∧ Le w v ∧ v.c ≤ w.c + 0 ∧ Lk w4 v ∧ v.h fo = some (.lst ((minF (nz.take i)).map V.int)) ∧ v.k fo = none ∧ OwnD v sd ks dT ∧ ks.Nodup ∧
    (∀ k ∈ ks, 0 ≤ k ∧ k < 201) ∧ ∀ k, 0 ≤ k → k < 201 → (k ∈ ks ↔ Mem (minF (nz.take i)) k), ⟨none, none, [0], rfl, l4, by omega, Lk.refl _, ?_, ?_, ⟨?_, ?_, ?_⟩, by simp, by simp, ?_⟩, ?_, ?_, ?_⟩
  · exact l24.h fo _ (l2.nobox nf0) (le2.h fo _ (le1.nobox nf0) hf1)
  · exact l24.own fo _ (le2.h fo _ (le1.nobox nf0) hf1) (le2.own fo _ hf1 kf1)
  · exact l24.h sd _ (l2.nobox ns0) hd2
  · exact l24.own sd _ hd2 kd2
  · exact l4.nobox ns0
  · intro k h0 h1
    show k ∈ [0] ↔ Mem [] k
    rw [mem_nil, List.mem_singleton]
  · rintro i σ v hi ⟨_, _, _, _, _, _, lk, _⟩
    exact .inl (.inl (v.ext _ _ (lk.k _ _ hp4)))
  · rintro i x σ v hi hx ⟨t, s4, ks, rfl, lv, cv, lk, hf, kf, od, nd, rng, hk⟩
    obtain ⟨n, hn, rfl⟩ := c_are_generators.map_get hx
    have hn1 := posz n (List.mem_of_getElem? hn)
    have tk : nz.take (i + 1) = nz.take i ++ [n] := by rw [List.take_add_one, hn]; rfl
    walk_at "st"
    refine dnotin_i (k := n) od.h ?_
    walk_at "st"
    have hmem := hk n (by omega) (by omega)
    refine ite_b (fun e => ?_) (fun e => ?_)
    · have e' : n ∉ ks := by simpa using e
      have nm : ¬ Mem (minF (nz.take i)) n := fun z => e' (hmem.mpr z)
      have hlm : (minF (nz.take i)).length ≤ 60 := by
        have h1 := @minF_len (nz.take i)
        have h2 : (nz.take i).length ≤ nz.length := by rw [List.length_take]; omega
        omega
      walk_at "st"
      refine ⟨isList hf, ?_⟩
      walk_at "st"
      refine append_w hf (by rw [List.length_map]; omega) ?_
      obtain ⟨v2, h2, k2, c2', l2', lk2, g2, kn2⟩ := put_w (o' := .lst ((minF (nz.take (i + 1))).map V.int)) lv hf kf nf0
      have eo : (minF (nz.take i)).map V.int ++ [V.int n] = (minF (nz.take (i + 1))).map V.int := by
        rw [tk, minF_snoc, minStep_no nm, List.map_append]
        rfl
      rw [eo, ← h2]
      have od2 : OwnD v2 sd ks dT := ⟨by rw [h2, upd_ne nfs.symm]; exact od.h, by rw [k2]; exact od.k, by rw [lk2.b]; exact od.b⟩
      walk_at "st"
      refine for_r1 (by decide) (by decide) ⟨fun j σ v => ∃ s5 ks, σ = [some (.ref a), some (.ref fo), some (.ref sd), some (.int n), s5] ∧ Le w v ∧ v.c ≤ w.c + 0 ∧ Lk w4 v ∧ v.h fo = some (.lst ((minF (nz.take (i + 1))).map V.int)) ∧ v.k fo = none ∧ OwnD v sd ks dT ∧ ks.Nodup ∧
        (∀ k ∈ ks, 0 ≤ k ∧ k < 201) ∧ ∀ k, 0 ≤ k → k < 201 → (k ∈ ks ↔ (Mem (minF (nz.take i)) k ∨ (k < (j : Int) ∧ Mem (minF (nz.take (i + 1))) k))), ⟨s4, ks, rfl, l2', by omega, lk.trans lk2, g2, kn2, od2, nd, rng, fun k h0 h1 => by
          rw [hk k h0 h1]
          constructor
          · exact .inl
          · rintro (z | z)
            · exact z
            · have := z.1
              omega⟩, fun _ _ _ _ _ => trivial, ?_, ?_⟩
      · rintro j x σ v hj rfl ⟨s5, ks, rfl, lv, cv, lk, hf, kf, od, nd, rng, hk⟩
        have hj' : (j : Int) < 201 := by
          have : (200 + 1 : Int).toNat = 201 := rfl
          omega
        rw [show (0 : Int) + (j : Int) = j by omega]
        walk_at "st"
        refine din_i (k := (j : Int) - n) od.h ?_
        walk_at "st"
        have tk2 : minF (nz.take (i + 1)) = minF (nz.take i) ++ [n] := by rw [tk, minF_snoc, minStep_no nm]
        have pk : ∀ x ∈ minF (nz.take (i + 1)), 1 ≤ x ∧ x ≤ 200 := fun x hx => posz x (List.mem_of_mem_take (minF_sub hx))
        have key : Mem (minF (nz.take (i + 1))) (j : Int) ↔ Mem (minF (nz.take i)) j ∨ ((j : Int) - n) ∈ ks := by
          rw [tk2, mem_snoc, ← tk2]
          refine or_congr Iff.rfl ?_
          constructor
          · intro h
            have h0 := h.nonneg pk
            exact (hk _ h0 (by omega)).mpr (.inr ⟨by omega, h⟩)
          · intro h
            have h0 := rng _ h
            rcases (hk _ h0.1 h0.2).mp h with z | z
            · rw [tk2, mem_snoc]
              exact .inl z
            · exact z.2
        have step : ∀ k, (k < ((j : Int) + 1) ∧ Mem (minF (nz.take (i + 1))) k) ↔ ((k < (j : Int) ∧ Mem (minF (nz.take (i + 1))) k) ∨ (k = j ∧ Mem (minF (nz.take (i + 1))) j)) := fun k => by
          constructor
          · rintro ⟨z1, z2⟩
            by_cases ez : k = j
            · subst ez; exact .inr ⟨rfl, z2⟩
            · exact .inl ⟨by omega, z2⟩
          · rintro (⟨z1, z2⟩ | ⟨rfl, z2⟩)
            · exact ⟨by omega, z2⟩
            · exact ⟨by omega, z2⟩
        refine ite_b (fun e => ?_) (fun e => ?_)
        · have e' : (j : Int) - n ∈ ks := by simpa using e
          walk_at "st"
          refine dput_i (k := (j : Int)) od.h (by have := rng_len nd rng; omega) ?_
          rw [show (fun k => if k = (j : Int) then V.bl true else dT k) = dT by funext k; split <;> rfl]
          obtain ⟨v3, h3, k3, c3', l3', lk3, o3, oth3⟩ := own_put (ks' := if (j : Int) ∈ ks then ks else ks ++ [(j : Int)]) (g' := dT) lv od ns0
          rw [← h3]
          have inn : ∀ k, k ∈ (if (j : Int) ∈ ks then ks else ks ++ [(j : Int)]) ↔ k ∈ ks ∨ k = j := fun k => by
            by_cases e : (j : Int) ∈ ks
            · rw [if_pos e]
              exact ⟨.inl, fun z => z.elim id fun z => z ▸ e⟩
            · rw [if_neg e]
              simp
          refine ⟨v3, rfl, _, _, rfl, l3', by omega, lk.trans lk3, by rw [h3, upd_ne nfs]; exact hf, by rw [k3]; exact kf, o3, ?_, ?_, ?_⟩
          · by_cases e : (j : Int) ∈ ks
            · rw [if_pos e]; exact nd
            · rw [if_neg e]
              refine List.nodup_append.mpr ⟨nd, by simp, fun x hx y hy => ?_⟩
              rw [List.mem_singleton.mp hy]
              exact fun z => e (z ▸ hx)
          · intro k hk'
            rcases (inn k).mp hk' with z | z
            · exact rng k z
            · omega
          · intro k h0 h1
            rw [inn k, hk k h0 h1, show ((j + 1 : Nat) : Int) = (j : Int) + 1 by omega, step k, or_assoc]
            refine or_congr Iff.rfl (or_congr Iff.rfl ?_)
            constructor
            · rintro rfl
              exact ⟨rfl, key.mpr (.inr e')⟩
            · exact fun z => z.1
        · have e' : (j : Int) - n ∉ ks := by simpa using e
          walk_at "st"
          refine ⟨v, rfl, _, ks, rfl, lv, cv, lk, hf, kf, od, nd, rng, fun k h0 h1 => ?_⟩
          rw [hk k h0 h1, show ((j + 1 : Nat) : Int) = (j : Int) + 1 by omega, step k, ← or_assoc]
          constructor
          · exact .inl
          · rintro (z | ⟨rfl, z⟩)
            · exact z
            · exact .inl ((key.mp z).resolve_right e')
      · rintro σ v ⟨s5, ks, rfl, lv, cv, lk, hf, kf, od, nd, rng, hk⟩
        walk_at "st"
        refine ⟨v, rfl, _, _, ks, rfl, lv, cv, lk, hf, kf, od, nd, rng, fun k h0 h1 => ?_⟩
        rw [hk k h0 h1]
        constructor
        · rintro (z | z)
          · rw [tk, minF_snoc, minStep_no nm, mem_snoc]
            exact .inl z
          · exact z.2
        · intro z
          exact .inr ⟨by show k < ((200 + 1 : Int).toNat : Int); omega, z⟩
    · have e' : n ∈ ks := by simpa using e
      have m' := hmem.mp e'
      walk_at "st"
      have tk2 : minF (nz.take (i + 1)) = minF (nz.take i) := by rw [tk, minF_snoc, minStep_yes m']
      refine ⟨v, rfl, _, _, ks, rfl, lv, cv, lk, by rw [tk2]; exact hf, kf, od, nd, rng, fun k h0 h1 => by rw [tk2]; exact hk k h0 h1⟩
  · rintro σ v ⟨t, s4, ks, rfl, lv, cv, lk, hf, kf, od, nd, rng, hk⟩
    rw [List.length_map, List.take_length] at hf
    walk_at "st"
    refine tupleOf_l (.inl (.inl hf)) fun p u lu cu np hp => ?_
    exact q _ u (lv.trans lu) (by omega) ⟨p, nz, rfl, A0, hp⟩
end

end Sb
set_option Elab.async false
set_option linter.all false
set_option maxRecDepth 100000
set_option maxHeartbeats 4000000
namespace Sb
open PySem PySem.Spec PyProof.Rows L2
open C8 (fnScope_by)
local macro_rules | `(tactic| walk_at "st") => `(tactic| repeat (first
  | ((with_reducible refine' x_var ?hvar ?_); (case hvar => rfl)) | with_reducible refine x_c ?_ | with_reducible refine x_op ?_ | with_reducible refine x_un ?_ | with_reducible refine x_test ?_ | with_reducible refine x_tb ?_
  | with_reducible refine x_and ?_ | with_reducible refine x_or ?_ | with_reducible refine x_not ?_ | with_reducible refine x_andV ?_ | with_reducible refine x_orV ?_ | with_reducible refine x_notV ?_ | with_reducible refine x_if ?_
  | with_reducible refine x_nil ?_ | with_reducible refine x_cons ?_ | with_reducible refine x_cb ?_ | with_reducible refine x_call ?_ | with_reducible refine x_callS ?_ | with_reducible refine x_callKS ?_ | with_reducible refine x_chain ?_ | with_reducible refine x_sl ?_
  | with_reducible refine x_part ?_ | with_reducible refine x_nopart ?_ | with_reducible refine x_seq ?_ | with_reducible refine x_asg ?_ | with_reducible refine x_gn ?_ | with_reducible refine x_gsub ?_ | with_reducible refine x_par ?_ | with_reducible refine x_par3 ?_
  | with_reducible refine x_ret ?_ | with_reducible refine x_drop ?_ | with_reducible refine x_ifS ?_ | with_reducible refine x_next ?_ | with_reducible refine x_I0 ?_ | with_reducible refine x_U ?_ | with_reducible refine x_eqI ?_
  | with_reducible refine x_eqS ?_ | with_reducible refine x_bm ?_ | with_reducible refine x_tup ?_ | with_reducible refine x_lst ?_ | with_reducible refine x_lstRg ?_ | with_reducible refine x_rg1 ?_ | with_reducible refine x_rg2 ?_
  | with_reducible refine x_forL ?_ | with_reducible refine x_forS ?_ | with_reducible refine x_forT ?_ | with_reducible refine x_forR1 ?_ | with_reducible refine x_forR2 ?_ | with_reducible refine x_lcL ?_ | with_reducible refine x_lcS ?_ | with_reducible refine x_lcR1 ?_ | with_reducible refine x_lcR2 ?_
  | with_reducible refine x_yes ?_ | with_reducible refine x_mkO ?_ | with_reducible refine x_dget ?_ | with_reducible refine x_din ?_ | with_reducible refine x_dnotin ?_ | with_reducible refine x_dput ?_ | with_reducible refine x_forR3 ?_ | with_reducible refine x_lcR3 ?_ | with_reducible refine x_lcD ?_ | with_reducible refine x_lc2R ?_
  | with_reducible refine iteF ?_ | with_reducible refine iteT ?_ | with_reducible refine iteNF ?_ | with_reducible refine iteNT ?_ | with_reducible refine ⟨_, rfl, ?_⟩ | with_reducible refine ⟨_, _, rfl, ?_⟩ | with_reducible refine ⟨_, _, rfl, rfl, ?_⟩))

/-! ### what the program answers -/
theorem gens_ns {K : PySem.W.Frag} {H : Hp} {v : V} {d : PyData} (h : gensOK d = true) (hv : Dat K H v d) : ∃ a ns, v = .ref a ∧ SqS K H a (ns.map V.int) ∧ itemsD d = ns.map PyData.int ∧ Gn ns := by
  unfold gensOK at h
  simp only [Bool.and_eq_true, decide_eq_true_eq] at h
  obtain ⟨⟨⟨h1, h2, h3⟩, h4⟩, h5⟩ := h
  obtain ⟨a, xs, rfl, sa, da⟩ := seq_of hv (by rw [← isL_seq]; exact h1)
  obtain ⟨ns, hns⟩ := c_are_generators.ints_of h4
  have hx : xs = ns.map V.int := by
    rw [hns] at da
    exact da.vints
  subst hx
  have eg : gcdD (itemsD d) = gcdL ns := by
    rw [hns]
    unfold gcdD gcdL
    rw [List.foldl_map]
  refine ⟨a, ns, rfl, sa, hns, Gn.of_gcd (fun x hx => ?_) (fun e => ?_) (by rw [← eg]; exact h5)⟩
  · have := List.all_eq_true.mp h4 (.int x) (by rw [hns]; exact List.mem_map_of_mem hx)
    unfold isW at this
    simp only [Bool.and_eq_true, decide_eq_true_eq] at this
    exact this
  · rw [hns, e] at h2
    exact absurd h2 (by simp)
theorem flat_len {k : Nat → Nat} {v : Nat → Nat → V} {B : Nat} : ∀ n, (∀ i, i < n → k i ≤ B) → (flat2 k v n).length ≤ n * B
  | 0, _ => by simp [flat2]
  | n + 1, h => by
    rw [flat2_succ, List.length_append, List.length_map, List.length_range, Nat.succ_mul]
    have := flat_len (v := v) n fun i hi => h i (by omega)
    have := h n (by omega)
    omega
theorem tab_at {m : Int} {f : Int → Int} {r : Int} (h0 : 0 ≤ r) (h1 : r < m) : atI ((tab m f).map V.int) r = some (.int (f r)) := by
  refine at_i h0 ?_
  unfold tab
  rw [List.map_map, List.getElem?_map, List.getElem?_range (by omega)]
  show some (V.int (f ((r.toNat : Nat) : Int))) = _
  rw [show ((r.toNat : Nat) : Int) = r by omega]
theorem tab_len {m : Int} {f : Int → Int} : (tab m f).length = m.toNat := by
  unfold tab
  rw [List.length_map, List.length_range]
section
variable {P : Program} {w : World} {K : PySem.W.Frag} {mg : Str → Option Value} {base : Heap}
abbrev s_is_member : Stmt := topS 18
theorem sc_is_member : FnScope ["generators", "number", "m"] ["generators", "number"] (defScope s_is_member) := fnScope_by (by decide +kernel)
theorem bi_is_member : BindsBy "is_member" s_is_member ["generators", "number"] := fun _ _ _ _ _ _ us hl => match us, hl with | [_, _], _ => rfl
abbrev sp_is_member (K : PySem.W.Frag) : Sp := SpG (γ := Addr × List Int × Int) (fun _ => 0) (fun g w vs => vs = [.ref g.1, .int g.2.2] ∧ SqS K w.k g.1 (g.2.1.map V.int) ∧ Gn g.2.1)
  (fun g w r u => ∃ m f, Apy g.2.1 m f ∧ r = .bl (decide (f (g.2.2 % m) ≤ g.2.2)))
theorem c_is_member (D : Df K mg "is_member" s_is_member) (T : Tx mg) (c_least_members : Cal P w K mg base CX0 2 "least_members" ["generators", "m"] (sp_least_members K)) : Cal P w K mg base CX0 3 "is_member" ["generators", "number"] (sp_is_member K) := by
  have sc := sc_is_member
  refine D.cal sc bi_is_member (fun g w vs h => by rw [h.1]; rfl) (fun qual f cdv A outer s E g w vs Q hr hc hp q => ?_)
  obtain ⟨a, ns, x⟩ := g
  dsimp only at hp hc q
  obtain ⟨rfl, ha, G⟩ := hp
  refine ⟨_, (pss_cons (ps_set (i := 2) sc.nd rfl (.inl rfl) (pe_callB (show CallR _ _ (rMinS K) from (cr_minS rfl hr.units)) (by rfl) T.m_min boot_min (pa_cons (pv 0) pa_nil)))
    (pss_one (ps_ret (pe_cmpR op_ge (pv 1) (pe_ix (show IxR _ (rIxL K) from ix_list) (pe_cc c_least_members hr (by first | decide | exact Nat.le_refl _) rfl (pa_cons (pv 0) (pa_cons (pv 2) pa_nil))) (pe_op op_modN (pv 1) (pv 2)) (fun _ _ => rfl)) (nomark _))))), ?_⟩
  walk_at "st"
  refine minS_i (ha.mono w.ext) (List.length_pos_iff.mpr G.ne) fun m hm lo => ?_
  have hm1 := G.pos m hm
  walk_at "st"
  refine ⟨(a, ns, m), w, rfl, hc, ⟨rfl, ha, G, hm1.1, hm1.2⟩, fun r u le hu e => ?_⟩
  obtain ⟨p, fn, rfl, hp, L⟩ := e
  have hu : u.c ≤ w.c + 0 := hu
  have L : IsLeast ns m fn := L
  have hp : u.k p = some (.lst ((tab m fn).map V.int)) := hp
  walk_at "st"
  refine x_fmod (by omega) ?_
  rw [Int.fmod_eq_emod_of_nonneg _ (by omega)]
  refine ix_l (.inl (.inl (u.ext _ _ hp))) (tab_at (Int.emod_nonneg _ (by omega)) (Int.emod_lt_of_pos _ (by omega))) ?_
  walk_at "st"
  exact q _ u le hu ⟨m, fn, ⟨hm, lo, L⟩, rfl⟩
abbrev s_gaps_of : Stmt := topS 20
theorem sc_gaps_of : FnScope ["generators", "m", "least", "rest", "number"] ["generators"] (defScope s_gaps_of) := fnScope_by (by decide +kernel)
theorem bi_gaps_of : BindsBy "gaps_of" s_gaps_of ["generators"] := fun _ _ _ _ _ _ us hl => match us, hl with | [_], _ => rfl
abbrev RGap (ns : List Int) (w : Wo) (r : V) (u : Wo) : Prop := ∃ p gs, r = .ref p ∧ w.h p = none ∧ u.k p = some (.lst (gs.map V.int)) ∧ GapsOf ns gs ∧ gs.length ≤ 40000
abbrev sp_gaps_of (K : PySem.W.Frag) : Sp := SpG (γ := Addr × List Int) (fun _ => 0) (fun g w vs => vs = [.ref g.1] ∧ SqS K w.k g.1 (g.2.map V.int) ∧ Gn g.2) (fun g w r u => RGap g.2 w r u)
theorem c_gaps_of (D : Df K mg "gaps_of" s_gaps_of) (T : Tx mg) (c_least_members : Cal P w K mg base CX0 2 "least_members" ["generators", "m"] (sp_least_members K)) : Cal P w K mg base CX0 3 "gaps_of" ["generators"] (sp_gaps_of K) := by
  have sc := sc_gaps_of
  refine D.cal sc bi_gaps_of (fun g w vs h => by rw [h.1]; rfl) (fun qual f cdv A outer s E g w vs Q hr hc hp q => ?_)
  obtain ⟨a, ns⟩ := g
  dsimp only at hp hc q
  obtain ⟨rfl, ha, G⟩ := hp
  refine ⟨_, (pss_cons (ps_set (i := 1) sc.nd rfl (.inr rfl) (pe_callB (show CallR _ _ (rMinS K) from (cr_minS rfl hr.units)) (by rfl) T.m_min boot_min (pa_cons (pv 0) pa_nil)))
    (pss_cons (ps_set (i := 2) sc.nd rfl (.inr rfl) (pe_cc c_least_members hr (by first | decide | exact Nat.le_refl _) rfl (pa_cons (pv 0) (pa_cons (pv 1) pa_nil))))
    (pss_one (ps_ret (pe_callB (show CallR _ _ (rSortedI K) from cr_sortedI) (by rfl) T.m_sorted boot_sorted (pa_cons (pe_lc2 rfl sc.nd (own := [("rest", 3), ("number", 4)]) (vs1 := [4]) (pi_range1 (by rfl) T.m_range (pa_cons (pv 1) pa_nil)) (blkOk_by (N := ["generators", "m", "least", "rest", "number"]) (sc := defScope s_gaps_of) (by decide +kernel)) (by decide) (fun _ _ _ _ _ => (pg_name (i := 3) sc.nd rfl (.inl rfl))) (fun _ _ _ _ _ => pts_nil) (fun _ _ _ _ _ => (pi_range3 (by rfl) T.m_range (pa_cons (pv 3) (pa_cons (pe_ix (show IxR _ (rIxL K) from ix_list) (pv 2) (pv 3) (fun _ _ => rfl)) (pa_cons (pv 1) pa_nil))))) (fun _ _ _ _ _ => (pg_name (i := 4) sc.nd rfl (.inl rfl))) (fun _ _ _ _ _ => pts_nil) (fun _ _ _ _ _ => (pv 4))) pa_nil)))))), ?_⟩
  walk_at "st"
  refine minS_i (ha.mono w.ext) (List.length_pos_iff.mpr G.ne) fun m hm lo => ?_
  have hm1 := G.pos m hm
  walk_at "st"
  refine ⟨(a, ns, m), w, rfl, hc, ⟨rfl, ha, G, hm1.1, hm1.2⟩, fun r u le hu e => ?_⟩
  obtain ⟨p, fn, rfl, hp, L⟩ := e
  have hu : u.c ≤ w.c + 0 := hu
  have L : IsLeast ns m fn := L
  have hp : u.k p = some (.lst ((tab m fn).map V.int)) := hp
  walk_at "st"
  have gb : ∀ i, i < m.toNat → gapN m fn i ≤ 200 := fun i hi => by
    have e := gapN_eq L G.pos i (by omega)
    have b := L.bnd i (by omega) (by omega)
    have h1 : (gapN m fn i : Int) * m ≤ 200 * m := by omega
    have := Int.le_of_mul_le_mul_right h1 (by omega)
    omega
  have fl : ∀ v : Nat → Nat → V, (flat2 (gapN m fn) v m.toNat).length ≤ 40000 := fun v => by
    have h1 := flat_len (v := v) m.toNat gb
    have h2 : m.toNat * 200 ≤ 200 * 200 := Nat.mul_le_mul_right _ (by omega)
    omega
  refine lc2_c (by omega) (by omega) (fun i => [some (.ref a), some (.int m), some (.ref p), some (.int (0 + (i : Int))), none]) (fun i => 0 + (i : Int)) (fun _ => m) (gapN m fn) (fun i j => .int (0 + (i : Int) + (j : Int) * m)) (by have := fl (fun i j => .int (0 + (i : Int) + (j : Int) * m)); omega) (fun i u1 hi lu cu R Nx hR => ?_) (fun i j u1 hi hj lu cu Qy Qn hQ => ?_) gn_mono (fun _ _ _ _ h z => h _ _ z) (fun p2 u1 lu cu np hp2 kp2 => ?_)
  · refine x_gn ⟨rfl, x_yes ⟨rfl, ?_⟩⟩
    walk_at "st"
    unfold iRng3
    walk_at "st"
    have ei : (0 : Int) + (i : Int) = i := by omega
    rw [ei]
    refine ix_l (.inl (.inl (u1.ext _ _ (lu.k _ _ hp)))) (tab_at (by omega) (by omega)) ?_
    walk_at "st"
    rw [ei] at hR
    refine ⟨(i : Int), fn i, m, gapN m fn i, rfl, ?_, hR⟩
    have e := gapN_eq L G.pos i (by omega)
    have b := L.bnd i (by omega) (by omega)
    have b2 := L.ge G.pos i (by omega) (by omega)
    have h2 : 200 * m ≤ 40000 := by omega
    rw [e]
    exact rgC_mul (by omega) (by omega) (by omega) (by omega) (by omega)
  · refine x_gn ⟨rfl, x_yes ?_⟩
    walk_at "st"
    exact hQ
  · have eg : flat2 (gapN m fn) (fun i j => V.int (0 + (i : Int) + (j : Int) * m)) m.toNat = (gapRaw m fn).map V.int := by
      unfold flat2 gapRaw
      rw [List.map_flatMap]
      congr 1
      funext i
      rw [List.map_map]
      apply List.map_congr_left
      intro j _
      show V.int (0 + (i : Int) + (j : Int) * m) = V.int ((i : Int) + j * m)
      rw [show (0 : Int) + (i : Int) = i by omega]
    have hl := fl (fun i j => V.int (0 + (i : Int) + (j : Int) * m))
    rw [eg] at hp2 hl
    walk_at "st"
    refine sorted_k (.inl (.inl hp2)) fun gs pm so p3 u3 l3 c3 n3 hp3 => ?_
    have lw := (le.trans lu).trans l3
    refine q _ u3 lw (by omega) ⟨p3, gs, rfl, (le.trans lu).fresh n3, hp3, ⟨m, fn, ⟨hm, lo, L⟩, pm, so⟩, ?_⟩
    rw [List.length_map] at hl
    rw [pm.length_eq]
    exact hl
abbrev s_frobenius_of : Stmt := topS 23
theorem sc_frobenius_of : FnScope ["generators", "m"] ["generators"] (defScope s_frobenius_of) := fnScope_by (by decide +kernel)
theorem bi_frobenius_of : BindsBy "frobenius_of" s_frobenius_of ["generators"] := fun _ _ _ _ _ _ us hl => match us, hl with | [_], _ => rfl
abbrev sp_frobenius_of (K : PySem.W.Frag) : Sp := SpG (γ := Addr × List Int) (fun _ => 0) (fun g w vs => vs = [.ref g.1] ∧ SqS K w.k g.1 (g.2.map V.int) ∧ Gn g.2) (fun g w r u => ∃ n, r = .int n ∧ FrobOf g.2 n)
theorem c_frobenius_of (D : Df K mg "frobenius_of" s_frobenius_of) (T : Tx mg) (c_least_members : Cal P w K mg base CX0 2 "least_members" ["generators", "m"] (sp_least_members K)) : Cal P w K mg base CX0 3 "frobenius_of" ["generators"] (sp_frobenius_of K) := by
  have sc := sc_frobenius_of
  refine D.cal sc bi_frobenius_of (fun g w vs h => by rw [h.1]; rfl) (fun qual f cdv A outer s E g w vs Q hr hc hp q => ?_)
  obtain ⟨a, ns⟩ := g
  dsimp only at hp hc q
  obtain ⟨rfl, ha, G⟩ := hp
  refine ⟨_, (pss_cons (ps_set (i := 1) sc.nd rfl (.inl rfl) (pe_callB (show CallR _ _ (rMinS K) from (cr_minS rfl hr.units)) (by rfl) T.m_min boot_min (pa_cons (pv 0) pa_nil)))
    (pss_one (ps_ret (pe_op op_sub (pe_callB (show CallR _ _ (rMax K) from (cr_max rfl)) (by rfl) T.m_max boot_max (pa_cons (pe_cc c_least_members hr (by first | decide | exact Nat.le_refl _) rfl (pa_cons (pv 0) (pa_cons (pv 1) pa_nil))) pa_nil)) (pv 1))))), ?_⟩
  walk_at "st"
  refine minS_i (ha.mono w.ext) (List.length_pos_iff.mpr G.ne) fun m hm lo => ?_
  have hm1 := G.pos m hm
  walk_at "st"
  refine ⟨(a, ns, m), w, rfl, hc, ⟨rfl, ha, G, hm1.1, hm1.2⟩, fun r u le hu e => ?_⟩
  obtain ⟨p, fn, rfl, hp, L⟩ := e
  have hu : u.c ≤ w.c + 0 := hu
  have L : IsLeast ns m fn := L
  have hp : u.k p = some (.lst ((tab m fn).map V.int)) := hp
  walk_at "st"
  refine max_s (.inl (.inl (u.ext _ _ hp))) (by rw [tab_len]; omega) fun x hx top => ?_
  walk_at "st"
  exact q _ u le hu ⟨_, rfl, m, fn, x, ⟨hm, lo, L⟩, hx, top, rfl⟩
end

end Sb
set_option Elab.async false
set_option linter.all false
set_option maxRecDepth 100000
set_option maxHeartbeats 4000000
namespace Sb
open PySem PySem.Spec PyProof.Rows L2
open C8 (fnScope_by)
local macro_rules | `(tactic| walk_at "st") => `(tactic| repeat (first
  | ((with_reducible refine' x_var ?hvar ?_); (case hvar => rfl)) | with_reducible refine x_c ?_ | with_reducible refine x_op ?_ | with_reducible refine x_un ?_ | with_reducible refine x_test ?_ | with_reducible refine x_tb ?_
  | with_reducible refine x_and ?_ | with_reducible refine x_or ?_ | with_reducible refine x_not ?_ | with_reducible refine x_andV ?_ | with_reducible refine x_orV ?_ | with_reducible refine x_notV ?_ | with_reducible refine x_if ?_
  | with_reducible refine x_nil ?_ | with_reducible refine x_cons ?_ | with_reducible refine x_cb ?_ | with_reducible refine x_call ?_ | with_reducible refine x_callS ?_ | with_reducible refine x_callKS ?_ | with_reducible refine x_chain ?_ | with_reducible refine x_sl ?_
  | with_reducible refine x_part ?_ | with_reducible refine x_nopart ?_ | with_reducible refine x_seq ?_ | with_reducible refine x_asg ?_ | with_reducible refine x_gn ?_ | with_reducible refine x_gsub ?_ | with_reducible refine x_par ?_ | with_reducible refine x_par3 ?_
  | with_reducible refine x_ret ?_ | with_reducible refine x_drop ?_ | with_reducible refine x_ifS ?_ | with_reducible refine x_next ?_ | with_reducible refine x_I0 ?_ | with_reducible refine x_U ?_ | with_reducible refine x_eqI ?_
  | with_reducible refine x_eqS ?_ | with_reducible refine x_bm ?_ | with_reducible refine x_tup ?_ | with_reducible refine x_lst ?_ | with_reducible refine x_lstRg ?_ | with_reducible refine x_rg1 ?_ | with_reducible refine x_rg2 ?_
  | with_reducible refine x_forL ?_ | with_reducible refine x_forS ?_ | with_reducible refine x_forT ?_ | with_reducible refine x_forR1 ?_ | with_reducible refine x_forR2 ?_ | with_reducible refine x_lcL ?_ | with_reducible refine x_lcS ?_ | with_reducible refine x_lcR1 ?_ | with_reducible refine x_lcR2 ?_
  | with_reducible refine x_yes ?_ | with_reducible refine x_mkO ?_ | with_reducible refine x_dget ?_ | with_reducible refine x_din ?_ | with_reducible refine x_dnotin ?_ | with_reducible refine x_dput ?_ | with_reducible refine x_forR3 ?_ | with_reducible refine x_lcR3 ?_ | with_reducible refine x_lcD ?_ | with_reducible refine x_lc2R ?_
  | with_reducible refine iteF ?_ | with_reducible refine iteT ?_ | with_reducible refine iteNF ?_ | with_reducible refine iteNT ?_ | with_reducible refine ⟨_, rfl, ?_⟩ | with_reducible refine ⟨_, _, rfl, ?_⟩ | with_reducible refine ⟨_, _, rfl, rfl, ?_⟩))

/-! ### what is asked of the program -/
abbrev sp_api (K : PySem.W.Frag) (CG : Addr) (R : List Int → Wo → V → Wo → Prop) : Sp := SpX (γ := V × PyData) (fun _ => 0) (fun g w vs => vs = [g.1] ∧ Dat K w.k g.1 g.2 ∧ (gensOK g.2 = true → (itemsD g.2).length ≤ 60))
  (fun g w r u => gensOK g.2 = true ∧ ∃ ns, itemsD g.2 = ns.map PyData.int ∧ Gn ns ∧ R ns w r u) (fun g w cls fs u => gensOK g.2 = false ∧ cls = .ref CG ∧ fs = [(("given" : Str), g.1)])
section
variable {P : Program} {w0 : World} {K : PySem.W.Frag} {mg : Str → Option Value} {base : Heap} {CG CN : Addr}
abbrev s_minimal : Stmt := topS 17
theorem sc_minimal : FnScope ["generators"] ["generators"] (defScope s_minimal) := fnScope_by (by decide +kernel)
theorem bi_minimal : BindsBy "minimal" s_minimal ["generators"] := fun _ _ _ _ _ _ us hl => match us, hl with | [_], _ => rfl

theorem c_minimal (D : Df K mg "minimal" s_minimal) (T : Tx mg) (c_check_generators : Cal P w0 K mg base (L2.CX P w0) 4 "check_generators" ["generators"] (sp_check_generators K CG)) (c_minimal_of : Cal P w0 K mg base CX0 1 "minimal_of" ["generators"] (sp_minimal_of K)) :
    Cal P w0 K mg base (L2.CX P w0) 5 "minimal" ["generators"] (sp_api K CG RMin) := by
  have sc := sc_minimal
  refine D.calX sc bi_minimal (fun g w vs h => by rw [h.1]; rfl) (fun qual f cdv A outer s E g w vs Q hr hc hp q qx => ?_)
  obtain ⟨v, d⟩ := g
  dsimp only at hp hc q qx
  obtain ⟨rfl, hv, hz⟩ := hp
  have tk := takes_of (X := cxOf (L2.CX P w0) P w0 K mg base ["generators"] qual (defScope s_minimal) f cdv A outer s w.h E) rfl rfl rfl rfl
  refine ⟨_, (pss_cons (ps_expr (pe_cS c_check_generators hr (by decide) rfl (fun σ => passAt tk σ) (pa_cons (pv 0) pa_nil)))
    (pss_one (ps_ret (pe_cc c_minimal_of hr (by first | decide | exact Nat.le_refl _) rfl (pa_cons (pv 0) pa_nil))))), ?_⟩
  walk_at "st"
  refine ⟨(v, d), w, rfl, hc, ⟨rfl, hv⟩, fun r u le hu e => ?_, fun cls dd fs u le hu e hx => ?_⟩
  rotate_left
  · obtain ⟨e, rfl, rfl⟩ := e
    exact qx _ dd _ u le hu ⟨e, rfl, rfl⟩ hx
  obtain ⟨rfl, e⟩ := e
  have hu : u.c ≤ w.c + 0 := hu
  have e : gensOK d = true := e
  obtain ⟨a, ns, rfl, ha, hns, G⟩ := gens_ns e hv
  walk_at "st"
  refine ⟨(a, ns), u, rfl, by show u.c + 0 ≤ MAXC; omega, ⟨rfl, ha.mono le.k, G, by have := hz e; rw [hns, List.length_map] at this; exact this⟩, fun r u2 l2 c2 post => ?_⟩
  have c2 : u2.c ≤ u.c + 0 := c2
  exact q _ u2 (le.trans l2) (by omega) ⟨e, ns, hns, G, post⟩
abbrev s_gaps : Stmt := topS 21
theorem sc_gaps : FnScope ["generators"] ["generators"] (defScope s_gaps) := fnScope_by (by decide +kernel)
theorem bi_gaps : BindsBy "gaps" s_gaps ["generators"] := fun _ _ _ _ _ _ us hl => match us, hl with | [_], _ => rfl

theorem c_gaps (D : Df K mg "gaps" s_gaps) (T : Tx mg) (c_check_generators : Cal P w0 K mg base (L2.CX P w0) 4 "check_generators" ["generators"] (sp_check_generators K CG)) (c_gaps_of : Cal P w0 K mg base CX0 3 "gaps_of" ["generators"] (sp_gaps_of K)) :
    Cal P w0 K mg base (L2.CX P w0) 5 "gaps" ["generators"] (sp_api K CG RGap) := by
  have sc := sc_gaps
  refine D.calX sc bi_gaps (fun g w vs h => by rw [h.1]; rfl) (fun qual f cdv A outer s E g w vs Q hr hc hp q qx => ?_)
  obtain ⟨v, d⟩ := g
  dsimp only at hp hc q qx
  obtain ⟨rfl, hv, hz⟩ := hp
  have tk := takes_of (X := cxOf (L2.CX P w0) P w0 K mg base ["generators"] qual (defScope s_gaps) f cdv A outer s w.h E) rfl rfl rfl rfl
  refine ⟨_, (pss_cons (ps_expr (pe_cS c_check_generators hr (by decide) rfl (fun σ => passAt tk σ) (pa_cons (pv 0) pa_nil)))
    (pss_one (ps_ret (pe_cc c_gaps_of hr (by first | decide | exact Nat.le_refl _) rfl (pa_cons (pv 0) pa_nil))))), ?_⟩
  walk_at "st"
  refine ⟨(v, d), w, rfl, hc, ⟨rfl, hv⟩, fun r u le hu e => ?_, fun cls dd fs u le hu e hx => ?_⟩
  rotate_left
  · obtain ⟨e, rfl, rfl⟩ := e
    exact qx _ dd _ u le hu ⟨e, rfl, rfl⟩ hx
  obtain ⟨rfl, e⟩ := e
  have hu : u.c ≤ w.c + 0 := hu
  have e : gensOK d = true := e
  obtain ⟨a, ns, rfl, ha, hns, G⟩ := gens_ns e hv
  walk_at "st"
  refine ⟨(a, ns), u, rfl, by show u.c + 0 ≤ MAXC; omega, ⟨rfl, ha.mono le.k, G⟩, fun r u2 l2 c2 post => ?_⟩
  have c2 : u2.c ≤ u.c + 0 := c2
  obtain ⟨p, gs, rfl, np, hp, gp, gl⟩ := post
  exact q _ u2 (le.trans l2) (by omega) ⟨e, ns, hns, G, p, gs, rfl, le.fresh np, hp, gp, gl⟩
abbrev s_genus : Stmt := topS 22
theorem sc_genus : FnScope ["generators"] ["generators"] (defScope s_genus) := fnScope_by (by decide +kernel)
theorem bi_genus : BindsBy "genus" s_genus ["generators"] := fun _ _ _ _ _ _ us hl => match us, hl with | [_], _ => rfl
abbrev RGen (ns : List Int) (w : Wo) (r : V) (u : Wo) : Prop := ∃ gs : List Int, r = .int (gs.length : Nat) ∧ GapsOf ns gs
theorem c_genus (D : Df K mg "genus" s_genus) (T : Tx mg) (c_check_generators : Cal P w0 K mg base (L2.CX P w0) 4 "check_generators" ["generators"] (sp_check_generators K CG)) (c_gaps_of : Cal P w0 K mg base CX0 3 "gaps_of" ["generators"] (sp_gaps_of K)) :
    Cal P w0 K mg base (L2.CX P w0) 5 "genus" ["generators"] (sp_api K CG RGen) := by
  have sc := sc_genus
  refine D.calX sc bi_genus (fun g w vs h => by rw [h.1]; rfl) (fun qual f cdv A outer s E g w vs Q hr hc hp q qx => ?_)
  obtain ⟨v, d⟩ := g
  dsimp only at hp hc q qx
  obtain ⟨rfl, hv, hz⟩ := hp
  have tk := takes_of (X := cxOf (L2.CX P w0) P w0 K mg base ["generators"] qual (defScope s_genus) f cdv A outer s w.h E) rfl rfl rfl rfl
  refine ⟨_, (pss_cons (ps_expr (pe_cS c_check_generators hr (by decide) rfl (fun σ => passAt tk σ) (pa_cons (pv 0) pa_nil)))
    (pss_one (ps_ret (pe_callB (show CallR _ _ (rLen K) from cr_len) (by rfl) T.m_len boot_len (pa_cons (pe_cc c_gaps_of hr (by first | decide | exact Nat.le_refl _) rfl (pa_cons (pv 0) pa_nil)) pa_nil))))), ?_⟩
  walk_at "st"
  refine ⟨(v, d), w, rfl, hc, ⟨rfl, hv⟩, fun r u le hu e => ?_, fun cls dd fs u le hu e hx => ?_⟩
  rotate_left
  · obtain ⟨e, rfl, rfl⟩ := e
    exact qx _ dd _ u le hu ⟨e, rfl, rfl⟩ hx
  obtain ⟨rfl, e⟩ := e
  have hu : u.c ≤ w.c + 0 := hu
  have e : gensOK d = true := e
  obtain ⟨a, ns, rfl, ha, hns, G⟩ := gens_ns e hv
  walk_at "st"
  refine ⟨(a, ns), u, rfl, by show u.c + 0 ≤ MAXC; omega, ⟨rfl, ha.mono le.k, G⟩, fun r u2 l2 c2 post => ?_⟩
  have c2 : u2.c ≤ u.c + 0 := c2
  obtain ⟨p, gs, rfl, np, hp, gp, gl⟩ := post
  walk_at "st"
  refine len_s (SqS.l (u2.ext _ _ hp)) ?_
  rw [List.length_map]
  exact q _ u2 (le.trans l2) (by omega) ⟨e, ns, hns, G, gs, rfl, gp⟩
abbrev s_frobenius : Stmt := topS 24
theorem sc_frobenius : FnScope ["generators"] ["generators"] (defScope s_frobenius) := fnScope_by (by decide +kernel)
theorem bi_frobenius : BindsBy "frobenius" s_frobenius ["generators"] := fun _ _ _ _ _ _ us hl => match us, hl with | [_], _ => rfl
abbrev RFro (ns : List Int) (w : Wo) (r : V) (u : Wo) : Prop := ∃ n, r = .int n ∧ FrobOf ns n
theorem c_frobenius (D : Df K mg "frobenius" s_frobenius) (T : Tx mg) (c_check_generators : Cal P w0 K mg base (L2.CX P w0) 4 "check_generators" ["generators"] (sp_check_generators K CG)) (c_frobenius_of : Cal P w0 K mg base CX0 3 "frobenius_of" ["generators"] (sp_frobenius_of K)) :
    Cal P w0 K mg base (L2.CX P w0) 5 "frobenius" ["generators"] (sp_api K CG RFro) := by
  have sc := sc_frobenius
  refine D.calX sc bi_frobenius (fun g w vs h => by rw [h.1]; rfl) (fun qual f cdv A outer s E g w vs Q hr hc hp q qx => ?_)
  obtain ⟨v, d⟩ := g
  dsimp only at hp hc q qx
  obtain ⟨rfl, hv, hz⟩ := hp
  have tk := takes_of (X := cxOf (L2.CX P w0) P w0 K mg base ["generators"] qual (defScope s_frobenius) f cdv A outer s w.h E) rfl rfl rfl rfl
  refine ⟨_, (pss_cons (ps_expr (pe_cS c_check_generators hr (by decide) rfl (fun σ => passAt tk σ) (pa_cons (pv 0) pa_nil)))
    (pss_one (ps_ret (pe_cc c_frobenius_of hr (by first | decide | exact Nat.le_refl _) rfl (pa_cons (pv 0) pa_nil))))), ?_⟩
  walk_at "st"
  refine ⟨(v, d), w, rfl, hc, ⟨rfl, hv⟩, fun r u le hu e => ?_, fun cls dd fs u le hu e hx => ?_⟩
  rotate_left
  · obtain ⟨e, rfl, rfl⟩ := e
    exact qx _ dd _ u le hu ⟨e, rfl, rfl⟩ hx
  obtain ⟨rfl, e⟩ := e
  have hu : u.c ≤ w.c + 0 := hu
  have e : gensOK d = true := e
  obtain ⟨a, ns, rfl, ha, hns, G⟩ := gens_ns e hv
  walk_at "st"
  refine ⟨(a, ns), u, rfl, by show u.c + 0 ≤ MAXC; omega, ⟨rfl, ha.mono le.k, G⟩, fun r u2 l2 c2 post => ?_⟩
  have c2 : u2.c ≤ u.c + 0 := c2
  exact q _ u2 (le.trans l2) (by omega) ⟨e, ns, hns, G, post⟩
abbrev s_conductor : Stmt := topS 25
theorem sc_conductor : FnScope ["generators"] ["generators"] (defScope s_conductor) := fnScope_by (by decide +kernel)
theorem bi_conductor : BindsBy "conductor" s_conductor ["generators"] := fun _ _ _ _ _ _ us hl => match us, hl with | [_], _ => rfl
abbrev RCon (ns : List Int) (w : Wo) (r : V) (u : Wo) : Prop := ∃ n, r = .int (n + 1) ∧ FrobOf ns n
theorem c_conductor (D : Df K mg "conductor" s_conductor) (T : Tx mg) (c_check_generators : Cal P w0 K mg base (L2.CX P w0) 4 "check_generators" ["generators"] (sp_check_generators K CG)) (c_frobenius_of : Cal P w0 K mg base CX0 3 "frobenius_of" ["generators"] (sp_frobenius_of K)) :
    Cal P w0 K mg base (L2.CX P w0) 5 "conductor" ["generators"] (sp_api K CG RCon) := by
  have sc := sc_conductor
  refine D.calX sc bi_conductor (fun g w vs h => by rw [h.1]; rfl) (fun qual f cdv A outer s E g w vs Q hr hc hp q qx => ?_)
  obtain ⟨v, d⟩ := g
  dsimp only at hp hc q qx
  obtain ⟨rfl, hv, hz⟩ := hp
  have tk := takes_of (X := cxOf (L2.CX P w0) P w0 K mg base ["generators"] qual (defScope s_conductor) f cdv A outer s w.h E) rfl rfl rfl rfl
  refine ⟨_, (pss_cons (ps_expr (pe_cS c_check_generators hr (by decide) rfl (fun σ => passAt tk σ) (pa_cons (pv 0) pa_nil)))
    (pss_one (ps_ret (pe_op op_add (pe_cc c_frobenius_of hr (by first | decide | exact Nat.le_refl _) rfl (pa_cons (pv 0) pa_nil)) (pe_int))))), ?_⟩
  walk_at "st"
  refine ⟨(v, d), w, rfl, hc, ⟨rfl, hv⟩, fun r u le hu e => ?_, fun cls dd fs u le hu e hx => ?_⟩
  rotate_left
  · obtain ⟨e, rfl, rfl⟩ := e
    exact qx _ dd _ u le hu ⟨e, rfl, rfl⟩ hx
  obtain ⟨rfl, e⟩ := e
  have hu : u.c ≤ w.c + 0 := hu
  have e : gensOK d = true := e
  obtain ⟨a, ns, rfl, ha, hns, G⟩ := gens_ns e hv
  walk_at "st"
  refine ⟨(a, ns), u, rfl, by show u.c + 0 ≤ MAXC; omega, ⟨rfl, ha.mono le.k, G⟩, fun r u2 l2 c2 post => ?_⟩
  have c2 : u2.c ≤ u.c + 0 := c2
  obtain ⟨n, rfl, hn⟩ := post
  walk_at "st"
  exact q _ u2 (le.trans l2) (by omega) ⟨e, ns, hns, G, n, rfl, hn⟩
abbrev s_contains : Stmt := topS 19
theorem sc_contains : FnScope ["generators", "number"] ["generators", "number"] (defScope s_contains) := fnScope_by (by decide +kernel)
theorem bi_contains : BindsBy "contains" s_contains ["generators", "number"] := fun _ _ _ _ _ _ us hl => match us, hl with | [_, _], _ => rfl
abbrev sp_contains (K : PySem.W.Frag) (CG CN : Addr) : Sp := SpX (γ := V × PyData × V × PyData) (fun _ => 0) (fun g w vs => vs = [g.1, g.2.2.1] ∧ Dat K w.k g.1 g.2.1 ∧ Dat K w.k g.2.2.1 g.2.2.2)
  (fun g w r u => gensOK g.2.1 = true ∧ ∃ ns x, itemsD g.2.1 = ns.map PyData.int ∧ Gn ns ∧ g.2.2.2 = .int x ∧ 0 ≤ x ∧ ∃ m f, Apy ns m f ∧ r = .bl (decide (f (x % m) ≤ x)))
  (fun g w cls fs u => (gensOK g.2.1 = false ∧ cls = .ref CG ∧ fs = [(("given" : Str), g.1)]) ∨ (gensOK g.2.1 = true ∧ isCt g.2.2.2 = false ∧ cls = .ref CN ∧ fs = [(("given" : Str), g.2.2.1)]))
theorem c_contains (D : Df K mg "contains" s_contains) (T : Tx mg) (c_check_generators : Cal P w0 K mg base (L2.CX P w0) 4 "check_generators" ["generators"] (sp_check_generators K CG)) (c_is_count : Cal P w0 K mg base CX0 2 "is_count" ["value"] (sp_is_count K))
    (c_is_member : Cal P w0 K mg base CX0 3 "is_member" ["generators", "number"] (sp_is_member K)) (c_InvalidNumber : XcD P w0 K mg base "InvalidNumber" CN "given" (SpIni CN "given")) : Cal P w0 K mg base (L2.CX P w0) 5 "contains" ["generators", "number"] (sp_contains K CG CN) := by
  have sc := sc_contains
  refine D.calX sc bi_contains (fun g w vs h => by rw [h.1]; rfl) (fun qual f cdv A outer s E g w vs Q hr hc hp q qx => ?_)
  obtain ⟨v, d, x, dx⟩ := g
  dsimp only at hp hc q qx
  obtain ⟨rfl, hv, hxv⟩ := hp
  have tk := takes_of (X := cxOf (L2.CX P w0) P w0 K mg base ["generators", "number"] qual (defScope s_contains) f cdv A outer s w.h E) rfl rfl rfl rfl
  refine ⟨_, (pss_cons (ps_expr (pe_cS c_check_generators hr (by decide) rfl (fun σ => passAt tk σ) (pa_cons (pv 0) pa_nil)))
    (pss_cons (ps_if (pt_not (pt_val (pe_cc c_is_count hr (by first | decide | exact Nat.le_refl _) rfl (pa_cons (pv 1) pa_nil))))
      (pss_one (ps_raise rfl (takes_of rfl rfl rfl rfl) (pmk_xc c_InvalidNumber hr (by decide) rfl (pa_cons (pv 1) pa_nil))))
      pss_nil)
    (pss_one (ps_ret (pe_cc c_is_member hr (by first | decide | exact Nat.le_refl _) rfl (pa_cons (pv 0) (pa_cons (pv 1) pa_nil))))))), ?_⟩
  walk_at "st"
  refine ⟨(v, d), w, rfl, hc, ⟨rfl, hv⟩, fun r u le hu e => ?_, fun cls dd fs u le hu e hx => ?_⟩
  rotate_left
  · obtain ⟨e, rfl, rfl⟩ := e
    exact qx _ dd _ u le hu (.inl ⟨e, rfl, rfl⟩) hx
  obtain ⟨rfl, e⟩ := e
  have hu : u.c ≤ w.c + 0 := hu
  have e : gensOK d = true := e
  obtain ⟨a, ns, rfl, ha, hns, G⟩ := gens_ns e hv
  walk_at "st"
  refine ⟨(x, dx), u, rfl, by show u.c + 0 ≤ MAXC; omega, ⟨rfl, hxv.mono le.k⟩, fun r u2 l2 c2 e2 => ?_⟩
  subst e2
  have c2 : u2.c ≤ u.c + 0 := c2
  walk_at "st"
  cases ec : isCt dx with
  | false =>
    walk_at "st"
    refine mk_w fun dd z lz cz _ hz => ?_
    exact qx _ dd _ z ((le.trans l2).trans lz) (by omega) (.inr ⟨e, ec, rfl, rfl⟩) hz
  | true =>
    cases dx with
    | int n =>
      have hn : 0 ≤ n := of_decide_eq_true ec
      cases hxv
      walk_at "st"
      refine ⟨(a, ns, n), u2, rfl, by show u2.c + 0 ≤ MAXC; omega, ⟨rfl, ha.mono (le.trans l2).k, G⟩, fun r u3 l3 c3 post => ?_⟩
      have c3 : u3.c ≤ u2.c + 0 := c3
      exact q _ u3 ((le.trans l2).trans l3) (by omega) ⟨e, ns, n, hns, G, rfl, hn, post⟩
    | _ => exact absurd ec (by simp [isCt])
end

end Sb
set_option Elab.async false
set_option linter.all false
set_option maxRecDepth 100000
set_option maxHeartbeats 4000000
namespace Sb
open PySem PySem.Spec PyProof.Rows L2
open C8 (fnScope_by)
local macro_rules | `(tactic| walk_at "st") => `(tactic| repeat (first
  | ((with_reducible refine' x_var ?hvar ?_); (case hvar => rfl)) | with_reducible refine x_c ?_ | with_reducible refine x_op ?_ | with_reducible refine x_un ?_ | with_reducible refine x_test ?_ | with_reducible refine x_tb ?_
  | with_reducible refine x_and ?_ | with_reducible refine x_or ?_ | with_reducible refine x_not ?_ | with_reducible refine x_andV ?_ | with_reducible refine x_orV ?_ | with_reducible refine x_notV ?_ | with_reducible refine x_if ?_
  | with_reducible refine x_nil ?_ | with_reducible refine x_cons ?_ | with_reducible refine x_cb ?_ | with_reducible refine x_call ?_ | with_reducible refine x_callS ?_ | with_reducible refine x_callKS ?_ | with_reducible refine x_chain ?_ | with_reducible refine x_sl ?_
  | with_reducible refine x_part ?_ | with_reducible refine x_nopart ?_ | with_reducible refine x_seq ?_ | with_reducible refine x_asg ?_ | with_reducible refine x_gn ?_ | with_reducible refine x_gsub ?_ | with_reducible refine x_par ?_ | with_reducible refine x_par3 ?_
  | with_reducible refine x_ret ?_ | with_reducible refine x_drop ?_ | with_reducible refine x_ifS ?_ | with_reducible refine x_next ?_ | with_reducible refine x_I0 ?_ | with_reducible refine x_U ?_ | with_reducible refine x_eqI ?_
  | with_reducible refine x_eqS ?_ | with_reducible refine x_bm ?_ | with_reducible refine x_tup ?_ | with_reducible refine x_lst ?_ | with_reducible refine x_lstRg ?_ | with_reducible refine x_rg1 ?_ | with_reducible refine x_rg2 ?_
  | with_reducible refine x_forL ?_ | with_reducible refine x_forS ?_ | with_reducible refine x_forT ?_ | with_reducible refine x_forR1 ?_ | with_reducible refine x_forR2 ?_ | with_reducible refine x_lcL ?_ | with_reducible refine x_lcS ?_ | with_reducible refine x_lcR1 ?_ | with_reducible refine x_lcR2 ?_
  | with_reducible refine x_yes ?_ | with_reducible refine x_mkO ?_ | with_reducible refine x_dget ?_ | with_reducible refine x_din ?_ | with_reducible refine x_dnotin ?_ | with_reducible refine x_dput ?_ | with_reducible refine x_forR3 ?_ | with_reducible refine x_lcR3 ?_ | with_reducible refine x_lcD ?_ | with_reducible refine x_lc2R ?_
  | with_reducible refine iteF ?_ | with_reducible refine iteT ?_ | with_reducible refine iteNF ?_ | with_reducible refine iteNT ?_ | with_reducible refine ⟨_, rfl, ?_⟩ | with_reducible refine ⟨_, _, rfl, ?_⟩ | with_reducible refine ⟨_, _, rfl, rfl, ?_⟩))

/-! ### the law's own least members and gaps -/
def oV : Option Int → V
  | none => .non
  | some v => .int v
theorem oV_get {fs : List (Option Int)} {k : Nat} {o : Option Int} (h : fs[k]? = some o) : atI (fs.map oV) (k : Int) = some (oV o) := at_i (by omega) (by
  rw [show ((k : Int)).toNat = k by omega, List.getElem?_map, h]
  rfl)
theorem gs_mono {i j : Nat} : ∀ x σ H (A B : L2.St → Hp → Prop), (∀ σ H, A σ H → B σ H) → gSub (tVar i) (tVar j) rSetL x σ H A → gSub (tVar i) (tVar j) rSetL x σ H B := fun x σ H A B h z => by
  obtain ⟨v, e, u, e2, p, xs, n, k, e3, e4, e5, e6, z⟩ := z
  exact ⟨v, e, u, e2, p, xs, n, k, e3, e4, e5, e6, h _ _ z⟩
section
variable {P : Program} {wd : World} {K : PySem.W.Frag} {mg : Str → Option Value} {base : Heap}
abbrev s_law_least : Stmt := topS 34
theorem sc_law_least : FnScope ["generators", "m", "found", "fresh", "k", "x", "at"] ["generators", "m"] (defScope s_law_least) := fnScope_by (by decide +kernel)
theorem bi_law_least : BindsBy "_law_least" s_law_least ["generators", "m"] := fun _ _ _ _ _ _ us hl => match us, hl with | [_, _], _ => rfl
abbrev sp_law_least (K : PySem.W.Frag) : Sp := SpG (γ := Addr × List Int × Int) (fun _ => 0) (fun g w vs => vs = [.ref g.1, .int g.2.2] ∧ SqL K w.k g.1 (g.2.1.map V.int) ∧ Gn g.2.1 ∧ 1 ≤ g.2.2 ∧ g.2.2 ≤ 200)
  (fun g w r u => ∃ p f, r = .ref p ∧ u.k p = some (.lst ((tab g.2.2 f).map V.int)) ∧ IsLeast g.2.1 g.2.2 f)
theorem c_law_least (D : Df K mg "_law_least" s_law_least) (T : Tx mg) : Cal P wd K mg base CX0 1 "_law_least" ["generators", "m"] (sp_law_least K) := by
  have sc := sc_law_least
  refine D.cal sc bi_law_least (fun g w vs h => by rw [h.1]; rfl) (fun qual f cdv A outer s E g w vs Q hr hc hp q => ?_)
  obtain ⟨a, ns, m⟩ := g
  dsimp only at hp hc q
  obtain ⟨rfl, ha, G, m0, m1⟩ := hp
  refine ⟨_, (pss_cons (ps_par (i := 2) (j := 3) rfl sc.nd rfl rfl (by decide) rfl rfl (pa_cons (pe_op op_rep (pe_lst (pa_cons (pe_non) pa_nil)) (pv 1)) (pa_cons (pe_bl) pa_nil)) (by rfl))
    (pss_cons (ps_asg (pe_int) (pg_sub (pv 2) (pe_int) set_list))
    (pss_cons (ps_while PassesOwn.never (pt_val (pv 3))
      (pss_cons (ps_set (i := 3) sc.nd rfl (.inl rfl) (pe_bl))
      (pss_one (ps_for PassesOwn.never rfl (pi_range1 (by rfl) T.m_range (pa_cons (pv 1) pa_nil)) (pg_name (i := 4) sc.nd rfl (.inl rfl))
        (pss_one (ps_for PassesOwn.never rfl (show PI _ _ _ (iList K _) from pi_list (pv 0)) (pg_name (i := 5) sc.nd rfl (.inl rfl))
          (pss_one (ps_if (pt_cmpR op_notNo (pe_ix (show IxR _ (rIxL K) from ix_list) (pv 2) (pv 4) (fun _ _ => rfl)) (pe_non) (nomark _))
            (pss_cons (ps_set (i := 6) sc.nd rfl (.inl rfl) (pe_op op_modN (pe_callTy cr_int (by rfl) T.m_int boot_int (pa_cons (pe_op op_add (pe_ix (show IxR _ (rIxL K) from ix_list) (pv 2) (pv 4) (fun _ _ => rfl)) (pv 5)) pa_nil)) (pv 1)))
            (pss_one (ps_if (PW.pt (pw_or (pt_cmpR op_isNo (pe_ix (show IxR _ (rIxL K) from ix_list) (pv 2) (pv 6) (fun _ _ => rfl)) (pe_non) (nomark _)) (pw_or1 (pt_cmpR op_gt (pe_ix (show IxR _ (rIxL K) from ix_list) (pv 2) (pv 6) (fun _ _ => rfl)) (pe_op op_add (pe_ix (show IxR _ (rIxL K) from ix_list) (pv 2) (pv 4) (fun _ _ => rfl)) (pv 5)) (nomark _)))))
              (pss_one (ps_asg (pe_tup (pa_cons (pe_op op_add (pe_ix (show IxR _ (rIxL K) from ix_list) (pv 2) (pv 4) (fun _ _ => rfl)) (pv 5)) (pa_cons (pe_bl) pa_nil))) (show PG _ _ (gTup K 2 _) from (pg_tup rfl (pgs_cons (pg_sub (pv 2) (pv 6) set_list) (pgs_cons (pg_name (i := 3) sc.nd rfl (.inl rfl)) pgs_nil))))))
              pss_nil)))
            pss_nil))))))))
    (pss_one (ps_ret (pv 2)))))), ?_⟩
  walk_at "st"
  refine lst_k (by show 1 ≤ 1000000; decide) fun p0 w0 le0 c0 _ hp0 => ?_
  walk_at "st"
  refine rep1_o (w0.ext _ _ hp0) (by omega) (by omega) fun p w1 le1 c1 n1 hp1 kp1 _ => ?_
  have np : w.h p = none := le0.fresh n1
  have lw := le0.trans le1
  walk_at "st"
  refine setL hp1 (by decide) (by rw [List.length_replicate]; omega) ?_
  obtain ⟨w2, h2, k2, c2, l2, lk2, g2, kn2⟩ := put_w (o' := .lst (((List.replicate m.toNat none).set 0 (some 0)).map oV)) lw hp1 kp1 np
  have e0 : (List.replicate m.toNat V.non).set (0 : Int).toNat (V.int 0) = ((List.replicate m.toNat none).set 0 (some 0)).map oV := by
    rw [List.map_set, List.map_replicate]
    rfl
  rw [e0, ← h2]
  walk_at "st"
  have fe : ∀ x : Int, x.fmod m = x % m := fun x => Int.fmod_eq_emod_of_nonneg x (by omega)
  refine x_while (fun n σ v => ∃ fs fr s4 s5 s6, σ = [some (.ref a), some (.int m), some (.ref p), some (.bl fr), s4, s5, s6] ∧ Le w v ∧ v.c ≤ w.c + 0 ∧ v.h p = some (.lst (fs.map oV)) ∧ v.k p = none ∧ BF ns m fs ∧ n = muF (bigF m) fs + (if fr = true then 1 else 0) ∧
    (fr = false → ∀ j, j < m.toNat → ∀ g ∈ ns, ClAt m fs j g)) _ ⟨_, true, none, none, none, rfl, l2, by omega, g2, kn2, bf_start m0, rfl, (fun z => by cases z)⟩ ?_ ?_
  rotate_left
  · rintro σ H A B h ⟨v, e, k, e3, z⟩
    exact ⟨v, e, k, e3, h _ _ z⟩
  rintro n σ v ⟨f0, fr, s4, s5, s6, rfl, lv, cv, hf, kf, F, hn, hcl⟩
  walk_at "st"
  cases fr with
  | false =>
    walk_at "st"
    obtain ⟨L, eL⟩ := bf_end G (by omega) F (hcl rfl)
    have ev : f0.map oV = (tab m (finF f0)).map V.int := by
      conv => lhs; rw [eL]
      rw [List.map_map]
      rfl
    rw [ev] at hf
    obtain ⟨z, zh, zk⟩ := frz_w (w1 := w0) lv n1 hf kf le0
    rw [← zh.1]
    exact q _ z zh.2.1 (by rw [zh.2.2]; omega) ⟨p, finF f0, rfl, zk, L⟩
  | true =>
    have hn : n = muF (bigF m) f0 + 1 := hn
    walk_at "st"
    refine for_r1 (by omega) (by omega) ⟨fun k σ v => ∃ fs fr s4 s5 s6, σ = [some (.ref a), some (.int m), some (.ref p), some (.bl fr), s4, s5, s6] ∧ Le w v ∧ v.c ≤ w.c + 0 ∧ v.h p = some (.lst (fs.map oV)) ∧ v.k p = none ∧ Pass ns m f0 fs fr k 0,
      ⟨f0, false, s4, s5, s6, rfl, lv, cv, hf, kf, pass_start F⟩, fun _ _ _ _ _ => trivial, ?_, ?_⟩
    · rintro k x σ v hk rfl ⟨fs, fr, s4, s5, s6, rfl, lv, cv, hf, kf, PA⟩
      rw [show (0 : Int) + (k : Int) = k by omega]
      walk_at "st"
      refine for_lst ((seq_l (lv.k.trans v.ext) ha)) ⟨fun i σ v => ∃ fs fr s5 s6, σ = [some (.ref a), some (.int m), some (.ref p), some (.bl fr), some (.int k), s5, s6] ∧ Le w v ∧ v.c ≤ w.c + 0 ∧ v.h p = some (.lst (fs.map oV)) ∧ v.k p = none ∧ Pass ns m f0 fs fr k i,
        ⟨fs, fr, s5, s6, rfl, lv, cv, hf, kf, PA⟩, ?_, ?_, ?_⟩
      · rintro i σ v hi ⟨_, _, _, _, _, lv, _⟩
        exact seq_l (lv.k.trans v.ext) ha
      · rintro i x σ v hi hx ⟨fs, fr, s5, s6, rfl, lv, cv, hf, kf, PA⟩
        obtain ⟨g, hg, rfl⟩ := c_are_generators.map_get hx
        have hgn := List.mem_of_getElem? hg
        have hkl : k < fs.length := by rw [PA.F.len]; omega
        obtain ⟨o, ho⟩ : ∃ o, fs[k]? = some o := ⟨_, List.getElem?_eq_getElem hkl⟩
        have sq : SqL K v.h p (fs.map oV) := .inl (.inl hf)
        walk_at "st"
        refine ix_l sq (oV_get ho) ?_
        walk_at "st"
        cases o with
        | none =>
          refine notNo_no ?_
          walk_at "st"
          exact ⟨v, rfl, fs, fr, _, _, rfl, lv, cv, hf, kf, pass_skip PA hg fun u hu => by rw [ho] at hu; cases hu⟩
        | some y =>
          refine notNo_yes (by intro z; cases z) ?_
          walk_at "st"
          refine ix_l sq (v := .int y) (oV_get ho) ?_
          walk_at "st"
          refine int_i ?_
          walk_at "st"
          refine x_fmod (by omega) ?_
          rw [fe]
          have a0 := Int.emod_nonneg (y + g) (show m ≠ 0 by omega)
          have a1 := Int.emod_lt_of_pos (y + g) (show 0 < m by omega)
          have hal : ((y + g) % m).toNat < fs.length := by rw [PA.F.len]; omega
          obtain ⟨o2, ho2⟩ : ∃ o, fs[((y + g) % m).toNat]? = some o := ⟨_, List.getElem?_eq_getElem hal⟩
          have at2 : atI (fs.map oV) ((y + g) % m) = some (oV o2) := by
            have := oV_get ho2
            rwa [show ((((y + g) % m).toNat : Nat) : Int) = (y + g) % m by omega] at this
          have hres : ((k : Int) + g) % m = (y + g) % m := by
            have := (PA.F.mem k y ho).2
            rw [← emod_add_l y g m, this]
          have put : (∀ u, o2 = some u → y + g < u) → ∀ {s6 : Option V} {D : Ends}, (∀ v4 : Wo, Le w v4 → v4.c ≤ w.c + 0 → v4.h p = some (.lst ((fs.set ((y + g) % m).toNat (some (y + g))).map oV)) → v4.k p = none →
              Pass ns m f0 (fs.set ((y + g) % m).toNat (some (y + g))) true k (i + 1) → D.nx [some (.ref a), some (.int m), some (.ref p), some (.bl true), some (.int k), some (.int g), some (.int ((y + g) % m))] v4.h) →
              tAsg (tTup (tCons (tOp (rI0 fun i j => V.int (i + j)) (tOp (rIxL K) (tVar 2) (tVar 4)) (tVar 5)) (tCons (tC (V.bl true)) tNil))) (gTup K 2 (gCons (gSub (tVar 2) (tVar 6) rSetL) (gCons (gName 3) gNil))) D
                [some (.ref a), some (.int m), some (.ref p), some (.bl fr), some (.int k), some (.int g), some (.int ((y + g) % m))] v.h := fun hl _ D kk => by
            walk_at "st"
            refine ix_l sq (v := .int y) (oV_get ho) ?_
            walk_at "st"
            refine tup_k (by show 2 ≤ 1000000; decide) fun pt u lu cu npt hpt => ?_
            refine gt2 (.inl (.inl (u.ext _ _ hpt))) ?_ gs_mono gn_mono
            walk_at "st"
            have hfu := lu.h p _ (lv.nobox np) hf
            refine setL hfu a0 (by rw [List.length_map]; omega) ?_
            obtain ⟨v4, h4, k4, c4, l4, lk4, g4, kn4⟩ := put_w (o' := .lst ((fs.set ((y + g) % m).toNat (some (y + g))).map oV)) (lv.trans lu) hfu (lu.own p _ hf kf) np
            have e4 : (fs.map oV).set ((y + g) % m).toNat (V.int (y + g)) = (fs.set ((y + g) % m).toNat (some (y + g))).map oV := by
              rw [List.map_set]
              rfl
            rw [e4, ← h4]
            walk_at "st"
            exact kk v4 l4 (by omega) g4 kn4 (pass_put PA (by omega) G.pos (pass_le PA) ho hgn ho2 hl)
          walk_at "st"
          refine ix_l sq at2 ?_
          walk_at "st"
          cases o2 with
          | none =>
            refine isNo_yes ⟨true, rfl, iteT (iteT ?_)⟩
            refine put (fun u hu => by cases hu) (s6 := none) fun v4 l4 c4 h4 k4 P4 => ?_
            exact ⟨v4, rfl, _, true, _, _, rfl, l4, c4, h4, k4, P4⟩
          | some z =>
            refine isNo_no (by intro z; cases z) ?_
            walk_at "st"
            refine ix_l sq (v := .int z) at2 ?_
            walk_at "st"
            refine ix_l sq (v := .int y) (oV_get ho) ?_
            walk_at "st"
            refine ite_b (fun e => ?_) (fun e => ?_)
            · have e' := of_decide_eq_true e
              refine put (fun u hu => by cases hu; exact e') (s6 := none) fun v4 l4 c4 h4 k4 P4 => ?_
              exact ⟨v4, rfl, _, true, _, _, rfl, l4, c4, h4, k4, P4⟩
            · have e' := of_decide_eq_false e
              walk_at "st"
              refine ⟨v, rfl, fs, fr, _, _, rfl, lv, cv, hf, kf, pass_skip PA hg fun u hu => ?_⟩
              rw [ho] at hu
              cases hu
              refine ⟨z, ?_, by omega⟩
              rw [hres]
              exact ho2
      · rintro σ v ⟨fs, fr, s5, s6, rfl, lv, cv, hf, kf, PA⟩
        rw [List.length_map] at PA
        exact ⟨v, rfl, fs, fr, _, _, _, rfl, lv, cv, hf, kf, pass_row PA⟩
    · rintro σ v ⟨fs, fr, s4, s5, s6, rfl, lv, cv, hf, kf, PA⟩
      cases fr with
      | false =>
        obtain ⟨e, hcl, _⟩ := PA.no rfl
        exact ⟨muF (bigF m) fs, by rw [e]; omega, v, rfl, fs, false, _, _, _, rfl, lv, cv, hf, kf, PA.F, rfl, fun _ => hcl⟩
      | true =>
        have := PA.yes rfl
        exact ⟨muF (bigF m) fs + 1, by omega, v, rfl, fs, true, _, _, _, rfl, lv, cv, hf, kf, PA.F, rfl, (fun z => by cases z)⟩
end

end Sb
set_option Elab.async false
set_option linter.all false
set_option maxRecDepth 100000
set_option maxHeartbeats 4000000
namespace Sb
open PySem PySem.Spec PyProof.Rows L2
open C8 (fnScope_by)
local macro_rules | `(tactic| walk_at "st") => `(tactic| repeat (first
  | ((with_reducible refine' x_var ?hvar ?_); (case hvar => rfl)) | with_reducible refine x_c ?_ | with_reducible refine x_op ?_ | with_reducible refine x_un ?_ | with_reducible refine x_test ?_ | with_reducible refine x_tb ?_
  | with_reducible refine x_and ?_ | with_reducible refine x_or ?_ | with_reducible refine x_not ?_ | with_reducible refine x_andV ?_ | with_reducible refine x_orV ?_ | with_reducible refine x_notV ?_ | with_reducible refine x_if ?_
  | with_reducible refine x_nil ?_ | with_reducible refine x_cons ?_ | with_reducible refine x_cb ?_ | with_reducible refine x_call ?_ | with_reducible refine x_callS ?_ | with_reducible refine x_callKS ?_ | with_reducible refine x_chain ?_ | with_reducible refine x_sl ?_
  | with_reducible refine x_part ?_ | with_reducible refine x_nopart ?_ | with_reducible refine x_seq ?_ | with_reducible refine x_asg ?_ | with_reducible refine x_gn ?_ | with_reducible refine x_gsub ?_ | with_reducible refine x_par ?_ | with_reducible refine x_par3 ?_
  | with_reducible refine x_ret ?_ | with_reducible refine x_drop ?_ | with_reducible refine x_ifS ?_ | with_reducible refine x_next ?_ | with_reducible refine x_I0 ?_ | with_reducible refine x_U ?_ | with_reducible refine x_eqI ?_
  | with_reducible refine x_eqS ?_ | with_reducible refine x_bm ?_ | with_reducible refine x_tup ?_ | with_reducible refine x_lst ?_ | with_reducible refine x_lstRg ?_ | with_reducible refine x_rg1 ?_ | with_reducible refine x_rg2 ?_
  | with_reducible refine x_forL ?_ | with_reducible refine x_forS ?_ | with_reducible refine x_forT ?_ | with_reducible refine x_forR1 ?_ | with_reducible refine x_forR2 ?_ | with_reducible refine x_lcL ?_ | with_reducible refine x_lcS ?_ | with_reducible refine x_lcR1 ?_ | with_reducible refine x_lcR2 ?_
  | with_reducible refine x_yes ?_ | with_reducible refine x_mkO ?_ | with_reducible refine x_dget ?_ | with_reducible refine x_din ?_ | with_reducible refine x_dnotin ?_ | with_reducible refine x_dput ?_ | with_reducible refine x_forR3 ?_ | with_reducible refine x_lcR3 ?_ | with_reducible refine x_lcD ?_ | with_reducible refine x_lc2R ?_
  | with_reducible refine iteF ?_ | with_reducible refine iteT ?_ | with_reducible refine iteNF ?_ | with_reducible refine iteNT ?_ | with_reducible refine ⟨_, rfl, ?_⟩ | with_reducible refine ⟨_, _, rfl, ?_⟩ | with_reducible refine ⟨_, _, rfl, rfl, ?_⟩))

/-! ### the law's own divisor, gaps, minimal generators -/
section
variable {P : Program} {wd : World} {K : PySem.W.Frag} {mg : Str → Option Value} {base : Heap}
abbrev s_law_divisor : Stmt := topS 32
theorem sc_law_divisor : FnScope ["numbers", "d", "x"] ["numbers"] (defScope s_law_divisor) := fnScope_by (by decide +kernel)
theorem bi_law_divisor : BindsBy "_law_divisor" s_law_divisor ["numbers"] := fun _ _ _ _ _ _ us hl => match us, hl with | [_], _ => rfl
abbrev sp_law_divisor : Sp := SpG (γ := Addr × List Int) (fun _ => 0) (fun g w vs => vs = [.ref g.1] ∧ w.h g.1 = some (.lst (g.2.map V.int)) ∧ w.b ≠ some g.1 ∧ g.2 ≠ [] ∧ (∀ x ∈ g.2, 1 ≤ x ∧ x ≤ 1000) ∧ g.2.length ≤ 1000)
  (fun g w r u => ∃ d, r = .int d ∧ 1 ≤ d ∧ (d ≤ 1 → ∀ e, 2 ≤ e → ¬ ∀ x ∈ g.2, e ∣ x))
theorem first_of {n : Nat} {f : Nat → Bool} (h : ∃ i, i < n ∧ f i = true) : ∃ i r, (List.range n).filter f = i :: r ∧ i < n ∧ f i = true ∧ ∀ j, j < i → f j = false := by
  have hh := List.head?_filter (p := f) (l := List.range n)
  obtain ⟨i, hi, fi⟩ := h
  cases e : (List.range n).find? f with
  | none => exact absurd fi (by simpa using (List.find?_eq_none.mp e) i (List.mem_range.mpr hi))
  | some k =>
    rw [e] at hh
    cases e2 : (List.range n).filter f with
    | nil => rw [e2] at hh; cases hh
    | cons a r =>
      rw [e2] at hh
      cases hh
      have := List.find?_range_eq_some.mp e
      refine ⟨k, r, rfl, ?_, this.1, fun j hj => by simpa using this.2.2 j hj⟩
      exact List.mem_range.mp this.2.1
theorem c_law_divisor (D : Df K mg "_law_divisor" s_law_divisor) (T : Tx mg) : Cal P wd K mg base CX0 1 "_law_divisor" ["numbers"] sp_law_divisor := by
  have sc := sc_law_divisor
  refine D.cal sc bi_law_divisor (fun g w vs h => by rw [h.1]; rfl) (fun qual f cdv A outer s E g w vs Q hr hc hp q => ?_)
  obtain ⟨a, ns⟩ := g
  dsimp only at hp hc q
  obtain ⟨rfl, ha, hb, hne, pos, hlen⟩ := hp
  refine ⟨_, (pss_one (ps_ret (pe_ix (show IxR _ (rIxL K) from ix_list) (pe_lc rfl sc.nd (own := [("d", 1)]) (pi_range3 (by rfl) T.m_range (pa_cons (pe_callB (show CallR _ _ (rMinS K) from (cr_minS rfl hr.units)) (by rfl) T.m_min boot_min (pa_cons (pv 0) pa_nil)) (pa_cons (pe_int) (pa_cons (pe_un un_neg (pe_int)) pa_nil)))) (blkOk_by (N := ["numbers", "d", "x"]) (sc := defScope s_law_divisor) (by decide +kernel)) (fun _ _ _ _ _ => (pg_name (i := 1) sc.nd rfl (.inr rfl))) (fun _ _ _ _ _ => (pts_one (pt_cmpR (show OpR _ _ (rEqD K) from (op_eqD hr.units)) (pe_lc rfl sc.nd (own := [("x", 2)]) (show PI _ _ _ (iList K _) from pi_list (pv 0)) (blkOk_in (N := ["numbers", "d", "x"]) (sce := defScope s_law_divisor) rfl (by decide +kernel)) (fun _ _ _ _ _ => (pg_name (i := 2) sc.nd rfl (.inl rfl))) (fun _ _ _ _ _ => (pts_one (pt_cmpR op_ne (pe_op op_modN (pe_callTy cr_int (by rfl) T.m_int boot_int (pa_cons (pv 2) pa_nil)) (pv 1)) (pe_int) (nomark _)))) (fun _ _ _ _ _ => (pv 2))) (pe_lst pa_nil) (nomark _)))) (fun _ _ _ _ _ => (pv 1))) (pe_int) (fun _ _ => rfl)))), ?_⟩
  walk_at "st"
  refine minS_i (SqS.l ha) (List.length_pos_iff.mpr hne) fun m hm lo => ?_
  have hm1 := pos m hm
  walk_at "st"
  refine lc_r3 (RgC.neg (by omega) (by omega) (by decide) (by decide)) (lc_map (fun i => ns.all fun x => decide (x.fmod (m + (i : Int) * (-1)) = 0)) (fun i => .int (m + (i : Int) * (-1))) (by omega) (fun i x u hi hx lu cu Qy Qn qy qn => ?_) (fun p u lu cu np hp kp => ?_))
  · subst hx
    refine x_gn ⟨rfl, ?_⟩
    have hd : 1 ≤ m + (i : Int) * (-1) := by omega
    generalize hdd : m + (i : Int) * (-1) = d at *
    walk_at "st"
    refine lc_own (lu.h a _ hb ha) (by rw [lu.b]; exact hb) (lc_map (fun j => !decide ((ns.getD j 0).fmod d = 0)) (fun j => .int (ns.getD j 0)) (by rw [List.length_map]; omega) (fun j x u2 hj hx l2 c2 Qy Qn qy qn => ?_) (fun p u2 l2 c2 np hp kp => ?_))
    · obtain ⟨n, hn, rfl⟩ := c_are_generators.map_get hx
      have eg : ns.getD j 0 = n := by rw [List.getD_eq_getElem?_getD, hn]; rfl
      rw [eg] at qy qn
      refine x_gn ⟨rfl, ?_⟩
      walk_at "st"
      refine int_i ?_
      walk_at "st"
      refine x_fmod (by omega) ?_
      walk_at "st"
      refine x_neI ?_
      walk_at "st"
      refine ite_b (fun e => ?_) (fun e => ?_)
      · walk_at "st"
        exact qy e u2 (Le.refl _) rfl
      · exact qn e u2 (Le.refl _) rfl
    · rw [List.length_map, given_list ns (fun x => !decide (x.fmod d = 0)) V.int _ _ (fun j x hx => by rw [List.getD_eq_getElem?_getD, hx]; rfl) (fun j x hx _ => by rw [List.getD_eq_getElem?_getD, hx]; rfl)] at hp
      walk_at "st"
      refine lst_k (by show 0 ≤ 1000000; decide) fun p3 u3 l3 c3 n3 hp3 => ?_
      refine eqNil_ints (.inl (.inl (l3.h p _ (l2.nobox np) hp))) (u3.ext _ _ hp3) ?_
      walk_at "st"
      have eb : (ns.filter fun x => !decide (x.fmod d = 0)).isEmpty = ns.all fun x => decide (x.fmod d = 0) := by
        rw [Bool.eq_iff_iff, List.isEmpty_iff, List.filter_eq_nil_iff, List.all_eq_true]
        simp
      rw [eb]
      refine ite_b (fun e => ?_) (fun e => ?_)
      · walk_at "st"
        exact qy e u3 (l2.trans l3) (by omega)
      · exact qn e u3 (l2.trans l3) (by omega)
  · have eg := given_list (List.range (m - 0).toNat) (fun i => ns.all fun x => decide (x.fmod (m + (i : Int) * (-1)) = 0)) (fun i => V.int (m + (i : Int) * (-1))) _ _ (fun i x hx => by
      have := (List.getElem?_eq_some_iff.mp hx)
      obtain ⟨h1, h2⟩ := this
      rw [List.getElem_range] at h2
      rw [← h2]) (fun i x hx _ => by
      have := (List.getElem?_eq_some_iff.mp hx)
      obtain ⟨h1, h2⟩ := this
      rw [List.getElem_range] at h2
      rw [← h2])
    rw [List.length_range] at eg
    rw [eg] at hp
    obtain ⟨i, r, hf, hi, fi, before⟩ := first_of (n := (m - 0).toNat) (f := fun i => ns.all fun x => decide (x.fmod (m + (i : Int) * (-1)) = 0)) ⟨(m - 1).toNat, by omega, List.all_eq_true.mpr fun x _ => by
      rw [show m + (((m - 1).toNat : Nat) : Int) * (-1) = 1 by omega]
      simp⟩
    rw [hf] at hp
    walk_at "st"
    refine ix_l (.inl (.inl hp)) (v := .int (m + (i : Int) * (-1))) (at_i (by decide) (by rfl)) ?_
    refine q _ u lu (by omega) ⟨_, rfl, by omega, fun hd e he hall => ?_⟩
    have hme : e ≤ m := Int.le_of_dvd (by omega) (hall m hm)
    have := before (m - e).toNat (by omega)
    rw [show m + (((m - e).toNat : Nat) : Int) * (-1) = e by omega] at this
    have h2 : (ns.all fun x => decide (x.fmod e = 0)) = true := List.all_eq_true.mpr fun x hx => decide_eq_true (by
      rw [Int.fmod_eq_emod_of_nonneg _ (by omega)]
      exact Int.emod_eq_zero_of_dvd (hall x hx))
    rw [h2] at this
    cases this
abbrev s_law_gaps : Stmt := topS 35
theorem sc_law_gaps : FnScope ["generators", "m", "found", "least", "k", "x"] ["generators"] (defScope s_law_gaps) := fnScope_by (by decide +kernel)
theorem bi_law_gaps : BindsBy "_law_gaps" s_law_gaps ["generators"] := fun _ _ _ _ _ _ us hl => match us, hl with | [_], _ => rfl
abbrev sp_law_gaps (K : PySem.W.Frag) : Sp := SpG (γ := Addr × List Int) (fun _ => 0) (fun g w vs => vs = [.ref g.1] ∧ SqL K w.k g.1 (g.2.map V.int) ∧ Gn g.2) (fun g w r u => RGap g.2 w r u)
theorem c_law_gaps (D : Df K mg "_law_gaps" s_law_gaps) (T : Tx mg) (c__law_least : Cal P wd K mg base CX0 1 "_law_least" ["generators", "m"] (sp_law_least K)) : Cal P wd K mg base CX0 2 "_law_gaps" ["generators"] (sp_law_gaps K) := by
  have sc := sc_law_gaps
  refine D.cal sc bi_law_gaps (fun g w vs h => by rw [h.1]; rfl) (fun qual f cdv A outer s E g w vs Q hr hc hp q => ?_)
  obtain ⟨a, ns⟩ := g
  dsimp only at hp hc q
  obtain ⟨rfl, ha, G⟩ := hp
  refine ⟨_, (pss_cons (ps_par (i := 1) (j := 2) rfl sc.nd rfl rfl (by decide) rfl rfl (pa_cons (pe_callB (show CallR _ _ (rMinS K) from (cr_minS rfl hr.units)) (by rfl) T.m_min boot_min (pa_cons (pv 0) pa_nil)) (pa_cons (pe_lst pa_nil) pa_nil)) (by rfl))
    (pss_cons (ps_set (i := 3) sc.nd rfl (.inl rfl) (pe_cc c__law_least hr (by first | decide | exact Nat.le_refl _) rfl (pa_cons (pv 0) (pa_cons (pv 1) pa_nil))))
    (pss_cons (ps_for PassesOwn.never rfl (pi_range1 (by rfl) T.m_range (pa_cons (pv 1) pa_nil)) (pg_name (i := 4) sc.nd rfl (.inl rfl))
      (pss_one (ps_expr (show PE _ _ (tBM K _ _ _ _) from pe_bm PySem.F.plainAttrs_list PySem.F.slot_list_extend PySem.F.type_list_extend mt_extend (pv 2) (pa_cons (pe_lc rfl sc.nd (own := [("x", 5)]) (pi_range3 (by rfl) T.m_range (pa_cons (pv 4) (pa_cons (pe_ix (show IxR _ (rIxL K) from ix_list) (pv 3) (pv 4) (fun _ _ => rfl)) (pa_cons (pv 1) pa_nil)))) (blkOk_by (N := ["generators", "m", "found", "least", "k", "x"]) (sc := defScope s_law_gaps) (by decide +kernel)) (fun _ _ _ _ _ => (pg_name (i := 5) sc.nd rfl (.inl rfl))) (fun _ _ _ _ _ => pts_nil) (fun _ _ _ _ _ => (pv 5))) pa_nil)))))
    (pss_one (ps_ret (pe_callB (show CallR _ _ (rSortedI K) from cr_sortedI) (by rfl) T.m_sorted boot_sorted (pa_cons (pv 2) pa_nil))))))), ?_⟩
  walk_at "st"
  refine minS_i (.inl (seq_l w.ext ha)) (List.length_pos_iff.mpr G.ne) fun m hm lo => ?_
  have hm1 := G.pos m hm
  walk_at "st"
  refine lst_o (by show 0 ≤ 1000000; decide) fun fo w1 le1 c1 n1 hf1 kf1 _ => ?_
  walk_at "st"
  refine ⟨(a, ns, m), w1, rfl, by show w1.c + 0 ≤ MAXC; omega, ⟨rfl, seq_l le1.k ha, G, hm1.1, hm1.2⟩, fun r u le hu e => ?_⟩
  obtain ⟨p, fn, rfl, hp, L⟩ := e
  have hu : u.c ≤ w1.c + 0 := hu
  have L : IsLeast ns m fn := L
  have hp : u.k p = some (.lst ((tab m fn).map V.int)) := hp
  walk_at "st"
  have gb : ∀ i, i < m.toNat → gapN m fn i ≤ 200 := fun i hi => by
    have e := gapN_eq L G.pos i (by omega)
    have b := L.bnd i (by omega) (by omega)
    have h1 : (gapN m fn i : Int) * m ≤ 200 * m := by omega
    have := Int.le_of_mul_le_mul_right h1 (by omega)
    omega
  let raw : Nat → List Int := fun n => (List.range n).flatMap fun i => (List.range (gapN m fn i)).map fun j : Nat => (i : Int) + j * m
  have raw1 : ∀ n, raw (n + 1) = raw n ++ (List.range (gapN m fn n)).map fun j : Nat => (n : Int) + j * m := fun n => by
    show (List.range (n + 1)).flatMap _ = _
    rw [List.range_succ, List.flatMap_append]
    simp [raw]
  have rawl : ∀ n, n ≤ m.toNat → (raw n).length ≤ n * 200 := fun n => by
    induction n with
    | zero => intro _; simp [raw]
    | succ n ih =>
      intro h
      rw [raw1, List.length_append, List.length_map, List.length_range]
      have := ih (by omega)
      have := gb n (by omega)
      omega
  refine for_r1 (by omega) (by omega) ⟨fun k σ v => ∃ s4, σ = [some (.ref a), some (.int m), some (.ref fo), some (.ref p), s4, none] ∧ Le w v ∧ v.c ≤ w.c + 0 ∧ Lk u v ∧ v.h fo = some (.lst ((raw k).map V.int)) ∧ v.k fo = none,
    ⟨none, rfl, le1.trans le, by omega, Lk.refl _, le.h fo _ (le1.nobox n1) hf1, le.own fo _ hf1 kf1⟩, fun _ _ _ _ _ => trivial, ?_, ?_⟩
  · rintro k x σ v hk rfl ⟨s4, rfl, lv, cv, lk, hf, kf⟩
    rw [show (0 : Int) + (k : Int) = k by omega]
    walk_at "st"
    refine ⟨isList hf, ?_⟩
    walk_at "st"
    refine ix_l (.inl (.inl (v.ext _ _ (lk.k _ _ hp)))) (tab_at (by omega) (by omega)) ?_
    walk_at "st"
    have e := gapN_eq L G.pos k (by omega)
    have b := L.bnd k (by omega) (by omega)
    have b2 := L.ge G.pos k (by omega) (by omega)
    rw [e]
    refine lc_r3 (rgC_mul (by omega) (by omega) (by omega) (by omega) (by omega)) (lc_map (fun _ => true) (fun j => .int ((k : Int) + (j : Int) * m)) (by have := gb k (by omega); omega) (fun j x u2 hj hx l2 c2 Qy Qn qy qn => ?_) (fun p2 u2 l2 c2 np2 hp2 kp2 => ?_))
    · subst hx
      refine x_gn ⟨rfl, x_yes ?_⟩
      walk_at "st"
      exact qy rfl u2 (Le.refl _) rfl
    · have eg := given_list (List.range (gapN m fn k)) (fun _ => true) (fun j => V.int ((k : Int) + (j : Int) * m)) (fun _ => true) (fun j => .int ((k : Int) + (j : Int) * m)) (fun i x hx => rfl) (fun i x hx _ => by
        have := (List.getElem?_eq_some_iff.mp hx)
        obtain ⟨h1, h2⟩ := this
        rw [List.getElem_range] at h2
        rw [← h2])
      rw [List.length_range] at eg
      rw [eg, List.filter_eq_self.mpr (fun _ _ => rfl)] at hp2
      have hf2 := l2.h fo _ (lv.nobox n1) hf
      have rl := rawl k (by omega)
      have gl := gb k (by omega)
      walk_at "st"
      refine ⟨fo, p2, _, _, rfl, rfl, hf2, hp2, sz (by rw [List.length_map, List.length_map, List.length_range]; omega), ?_⟩
      obtain ⟨v4, h4, k4, c4, l4, lk4, g4, kn4⟩ := put_w (o' := .lst ((raw (k + 1)).map V.int)) (lv.trans l2) hf2 (l2.own fo _ hf kf) n1
      have e4 : (raw k).map V.int ++ (List.range (gapN m fn k)).map (fun j : Nat => V.int ((k : Int) + (j : Int) * m)) = (raw (k + 1)).map V.int := by
        rw [raw1, List.map_append, List.map_map]
        rfl
      rw [e4, ← h4]
      exact ⟨v4, rfl, _, rfl, l4, by omega, (lk.trans l2.lk).trans lk4, g4, kn4⟩
  · rintro σ v ⟨s4, rfl, lv, cv, lk, hf, kf⟩
    walk_at "st"
    refine sorted_k (.inl (.inl hf)) fun gs pm so p3 u3 l3 c3 n3 hp3 => ?_
    have rl := rawl m.toNat (Nat.le_refl _)
    refine q _ u3 (lv.trans l3) (by omega) ⟨p3, gs, rfl, lv.fresh n3, hp3, ⟨m, fn, ⟨hm, lo, L⟩, pm, so⟩, ?_⟩
    rw [pm.length_eq]
    omega
end

end Sb
set_option Elab.async false
set_option linter.all false
set_option maxRecDepth 100000
set_option maxHeartbeats 4000000
namespace Sb
open PySem PySem.Spec PyProof.Rows L2
open C8 (fnScope_by)
local macro_rules | `(tactic| walk_at "st") => `(tactic| repeat (first
  | ((with_reducible refine' x_var ?hvar ?_); (case hvar => rfl)) | with_reducible refine x_c ?_ | with_reducible refine x_op ?_ | with_reducible refine x_un ?_ | with_reducible refine x_test ?_ | with_reducible refine x_tb ?_
  | with_reducible refine x_and ?_ | with_reducible refine x_or ?_ | with_reducible refine x_not ?_ | with_reducible refine x_andV ?_ | with_reducible refine x_orV ?_ | with_reducible refine x_notV ?_ | with_reducible refine x_if ?_
  | with_reducible refine x_nil ?_ | with_reducible refine x_cons ?_ | with_reducible refine x_cb ?_ | with_reducible refine x_call ?_ | with_reducible refine x_callS ?_ | with_reducible refine x_callKS ?_ | with_reducible refine x_chain ?_ | with_reducible refine x_sl ?_
  | with_reducible refine x_part ?_ | with_reducible refine x_nopart ?_ | with_reducible refine x_seq ?_ | with_reducible refine x_asg ?_ | with_reducible refine x_gn ?_ | with_reducible refine x_gsub ?_ | with_reducible refine x_par ?_ | with_reducible refine x_par3 ?_
  | with_reducible refine x_ret ?_ | with_reducible refine x_drop ?_ | with_reducible refine x_ifS ?_ | with_reducible refine x_next ?_ | with_reducible refine x_I0 ?_ | with_reducible refine x_U ?_ | with_reducible refine x_eqI ?_
  | with_reducible refine x_eqS ?_ | with_reducible refine x_bm ?_ | with_reducible refine x_tup ?_ | with_reducible refine x_lst ?_ | with_reducible refine x_lstRg ?_ | with_reducible refine x_rg1 ?_ | with_reducible refine x_rg2 ?_
  | with_reducible refine x_forL ?_ | with_reducible refine x_forS ?_ | with_reducible refine x_forT ?_ | with_reducible refine x_forR1 ?_ | with_reducible refine x_forR2 ?_ | with_reducible refine x_lcL ?_ | with_reducible refine x_lcS ?_ | with_reducible refine x_lcR1 ?_ | with_reducible refine x_lcR2 ?_
  | with_reducible refine x_yes ?_ | with_reducible refine x_mkO ?_ | with_reducible refine x_dget ?_ | with_reducible refine x_din ?_ | with_reducible refine x_dnotin ?_ | with_reducible refine x_dput ?_ | with_reducible refine x_forR3 ?_ | with_reducible refine x_lcR3 ?_ | with_reducible refine x_lcD ?_ | with_reducible refine x_lc2R ?_
  | with_reducible refine iteF ?_ | with_reducible refine iteT ?_ | with_reducible refine iteNF ?_ | with_reducible refine iteNT ?_ | with_reducible refine ⟨_, rfl, ?_⟩ | with_reducible refine ⟨_, _, rfl, ?_⟩ | with_reducible refine ⟨_, _, rfl, rfl, ?_⟩))

/-! ### the law's own minimal generators -/
section
variable {P : Program} {wd : World} {K : PySem.W.Frag} {mg : Str → Option Value} {base : Heap}
abbrev s_law_minimal : Stmt := topS 36
theorem sc_law_minimal : FnScope ["generators", "kept", "x", "sums", "total", "y"] ["generators"] (defScope s_law_minimal) := fnScope_by (by decide +kernel)
theorem bi_law_minimal : BindsBy "_law_minimal" s_law_minimal ["generators"] := fun _ _ _ _ _ _ us hl => match us, hl with | [_], _ => rfl
abbrev sp_law_minimal (K : PySem.W.Frag) : Sp := SpG (γ := Addr × List Int) (fun _ => 0) (fun g w vs => vs = [.ref g.1] ∧ SqL K w.k g.1 (g.2.map V.int) ∧ Gn g.2 ∧ g.2.length ≤ 60) (fun g w r u => RMin g.2 w r u)
theorem c_law_minimal (D : Df K mg "_law_minimal" s_law_minimal) (T : Tx mg) : Cal P wd K mg base CX0 1 "_law_minimal" ["generators"] (sp_law_minimal K) := by
  have sc := sc_law_minimal
  refine D.cal sc bi_law_minimal (fun g w vs h => by rw [h.1]; rfl) (fun qual f cdv A outer s E g w vs Q hr hc hp q => ?_)
  obtain ⟨a, ns⟩ := g
  dsimp only at hp hc q
  obtain ⟨rfl, ha, G, hlen⟩ := hp
  refine ⟨_, (pss_cons (ps_set (i := 1) sc.nd rfl (.inl rfl) (pe_lst pa_nil))
    (pss_cons (ps_for PassesOwn.never rfl (show PI _ _ _ (iList K _) from pi_list (pe_callB (show CallR _ _ (rSortedSet _) from (cr_sortedSet rfl)) (by rfl) T.m_sorted boot_sorted (pa_cons (pe_callTy (show CallR _ _ (rSetI K _) from (cr_setI rfl)) (by rfl) T.m_set boot_set (pa_cons (pv 0) pa_nil)) pa_nil))) (pg_name (i := 2) sc.nd rfl (.inl rfl))
      (pss_cons (ps_set (i := 3) sc.nd rfl (.inr rfl) (pe_op op_cat (pe_lst (pa_cons (pe_bl) pa_nil)) (pe_op op_rep (pe_lst (pa_cons (pe_bl) pa_nil)) (pv 2))))
      (pss_cons (ps_for PassesOwn.never rfl (pi_range2 (by rfl) T.m_range (pa_cons (pe_int) (pa_cons (pe_op op_add (pv 2) (pe_int)) pa_nil))) (pg_name (i := 4) sc.nd rfl (.inr rfl))
        (pss_one (ps_asg (pe_cmpR (show OpR _ _ (rNeD K) from (op_neD hr.units)) (pe_lc rfl sc.nd (own := [("y", 5)]) (show PI _ _ _ (iList K _) from pi_list (pv 1)) (blkOk_by (N := ["generators", "kept", "x", "sums", "total", "y"]) (sc := defScope s_law_minimal) (by decide +kernel)) (fun _ _ _ _ _ => (pg_name (i := 5) sc.nd rfl (.inl rfl))) (fun _ _ _ _ _ => (pts_one (PW.pt (pw_and (pt_cmpR op_le (pv 5) (pv 4) (nomark _)) (pw_and1 (pt_val (pe_ix (show IxR _ (rIxL K) from ix_list) (pv 3) (pe_op op_sub (pv 4) (pv 5)) (fun _ _ => rfl)))))))) (fun _ _ _ _ _ => (pv 5))) (pe_lst pa_nil) (nomark _)) (pg_sub (pv 3) (pv 4) set_list))))
      (pss_one (ps_if (pt_not (pt_val (pe_ix (show IxR _ (rIxL K) from ix_list) (pv 3) (pv 2) (fun _ _ => rfl))))
        (pss_one (ps_expr (show PE _ _ (tBM K _ _ _ _) from pe_bm PySem.F.plainAttrs_list PySem.F.slot_list_append PySem.F.type_list_append mt_append (pv 1) (pa_cons (pv 2) pa_nil))))
        pss_nil)))))
    (pss_one (ps_ret (pe_callTy (show CallR _ _ (rTupleOf K) from cr_tupleOf) (by rfl) T.m_tuple boot_tuple (pa_cons (pv 1) pa_nil)))))), ?_⟩
  walk_at "st"
  refine lst_o (by show 0 ≤ 1000000; decide) fun fo w1 le1 c1 n1 hf1 kf1 _ => ?_
  walk_at "st"
  refine setI_o (.inl (seq_l (le1.k.trans w1.ext) ha)) hlen fun c hcn ps w3 le3 c3 hp3 => ?_
  walk_at "st"
  refine sortedSet_k hp3 (by omega) fun nz asc mem hl pl w4 le4 c4 n4 hp4 => ?_
  have l14 := le3.trans le4
  have l4 := le1.trans l14
  have A0 : Asc nz ns := ⟨asc, fun k => (mem k).trans (by simp)⟩
  have posz : ∀ x ∈ nz, 1 ≤ x ∧ x ≤ 200 := fun x hx => G.pos x ((A0.mem x).mp hx)
  refine for_lst (.inl (.inl (w4.ext _ _ hp4))) ⟨fun i σ v => ∃ s2 s3 s4, σ = [some (.ref a), some (.ref fo), s2, s3, s4, none] ∧ Le w v ∧ v.c ≤ w.c + 0 ∧ Lk w4 v ∧ v.h fo = some (.lst ((minF (nz.take i)).map V.int)) ∧ v.k fo = none,
    ⟨none, none, none, rfl, l4, by omega, Lk.refl _, l14.h fo _ (le1.nobox n1) hf1, l14.own fo _ hf1 kf1⟩, ?_, ?_, ?_⟩
  · rintro i σ v hi ⟨_, _, _, _, _, _, lk, _⟩
    exact .inl (.inl (v.ext _ _ (lk.k _ _ hp4)))
  · rintro i x σ v hi hx ⟨s2, s3, s4, rfl, lv, cv, lk, hf, kf⟩
    obtain ⟨n, hn, rfl⟩ := c_are_generators.map_get hx
    have hn1 := posz n (List.mem_of_getElem? hn)
    have tk : nz.take (i + 1) = nz.take i ++ [n] := by rw [List.take_add_one, hn]; rfl
    generalize hkp : minF (nz.take i) = kp at *
    have hkl : kp.length ≤ 60 := by
      rw [← hkp]
      have h1 := @minF_len (nz.take i)
      have h2 : (nz.take i).length ≤ nz.length := by rw [List.length_take]; omega
      omega
    have kpos : ∀ x ∈ kp, 1 ≤ x ∧ x ≤ 200 := fun x hx => posz x (List.mem_of_mem_take (minF_sub (by rw [hkp]; exact hx)))
    walk_at "st"
    refine lst_k (by show 1 ≤ 1000000; decide) fun p1 v1 m1 d1 _ hq1 => ?_
    walk_at "st"
    refine lst_k (by show 1 ≤ 1000000; decide) fun p2 v2 m2 d2 _ hq2 => ?_
    walk_at "st"
    refine rep1_k (v2.ext _ _ hq2) (by omega) (by omega) fun p3 v3 m3 d3 _ hq3 => ?_
    refine cat_o (v3.ext _ _ ((m2.trans m3).k _ _ hq1)) (v3.ext _ _ hq3) (by rw [List.length_singleton, List.length_replicate]; omega) fun sm v4 m4 d4 nsm hs4 ks4 _ => ?_
    have m14 := ((m1.trans m2).trans m3).trans m4
    have nsm0 : v.h sm = none := ((m1.trans m2).trans m3).fresh nsm
    have nsm1 : w.h sm = none := lv.fresh nsm0
    have lv4 := lv.trans m14
    have hf4 := m14.h fo _ (lv.nobox n1) hf
    have kf4 := m14.own fo _ hf kf
    have nef : fo ≠ sm := ne_of_none hf nsm0
    walk_at "st"
    refine for_r2 (by omega) ⟨fun j σ u => ∃ s4 bs, σ = [some (.ref a), some (.ref fo), some (.int n), some (.ref sm), s4, none] ∧ Le w u ∧ u.c ≤ w.c + 0 ∧ Lk w4 u ∧ u.h fo = some (.lst (kp.map V.int)) ∧ u.k fo = none ∧ u.h sm = some (.lst (bs.map V.bl)) ∧ u.k sm = none ∧ bs.length = n.toNat + 1 ∧
      ∀ t : Nat, t < 1 + j → (bs[t]? = some true ↔ Mem kp (t : Int)), ⟨s4, true :: List.replicate n.toNat false, rfl, lv4, by omega, lk.trans m14.lk, hf4, kf4, ?_, ks4, by rw [List.length_cons, List.length_replicate], ?_⟩, fun _ _ _ _ _ => trivial, ?_, ?_⟩
    · rw [hs4, List.map_cons, List.map_replicate]
      rfl
    · intro t ht
      have : t = 0 := by omega
      subst this
      exact ⟨fun _ => .zero, fun _ => rfl⟩
    · rintro j x σ u hj rfl ⟨s4, bs, rfl, lu, cu, lku, hfu, kfu, hsu, ksu, bl, hb⟩
      have hjn : (1 : Int) + j ≤ n := by omega
      walk_at "st"
      have nbf := lu.nobox n1
      have nbs := lu.nobox nsm1
      refine lc_own hfu nbf (lc_map (fun k => decide (kp.getD k 0 ≤ 1 + (j : Int)) && (bs.getD ((1 + (j : Int)) - kp.getD k 0).toNat false)) (fun k => .int (kp.getD k 0)) (by rw [List.length_map]; omega) (fun k x u1 hk hx l1 e1 Qy Qn qy qn => ?_) (fun p u1 l1 e1 np hp kkp => ?_))
      · obtain ⟨y, hy, rfl⟩ := c_are_generators.map_get hx
        have ey : kp.getD k 0 = y := by rw [List.getD_eq_getElem?_getD, hy]; rfl
        have hy1 := kpos y (List.mem_of_getElem? hy)
        rw [ey] at qy qn
        refine x_gn ⟨rfl, ?_⟩
        walk_at "st"
        refine ite_b (fun e => ?_) (fun e => ?_)
        · have e' := of_decide_eq_true e
          have hl : (((1 : Int) + j) - y).toNat < bs.length := by omega
          have hg : bs[(((1 : Int) + j) - y).toNat]? = some bs[(((1 : Int) + j) - y).toNat] := List.getElem?_eq_getElem hl
          have hd : bs.getD (((1 : Int) + j) - y).toNat false = bs[(((1 : Int) + j) - y).toNat] := by rw [List.getD_eq_getElem?_getD, hg]; rfl
          rw [e, Bool.true_and, hd] at qy qn
          walk_at "st"
          refine ix_l (.inl (.inl (l1.h sm _ nbs hsu))) (v := .bl bs[(((1 : Int) + j) - y).toNat]) (at_i (by omega) (by rw [List.getElem?_map, hg]; rfl)) ?_
          walk_at "st"
          refine ite_b (fun e2 => ?_) (fun e2 => ?_)
          · walk_at "st"
            exact qy e2 u1 (Le.refl _) rfl
          · exact qn e2 u1 (Le.refl _) rfl
        · rw [e, Bool.false_and] at qn
          walk_at "st"
          exact qn rfl u1 (Le.refl _) rfl
      · rw [List.length_map, given_list kp (fun y => decide (y ≤ 1 + (j : Int)) && bs.getD ((1 + (j : Int)) - y).toNat false) V.int _ _ (fun j x hx => by rw [List.getD_eq_getElem?_getD, hx]; rfl) (fun j x hx _ => by rw [List.getD_eq_getElem?_getD, hx]; rfl)] at hp
        walk_at "st"
        refine lst_k (by show 0 ≤ 1000000; decide) fun p5 u5 l5 c5 n5 hp5 => ?_
        have lu5 := l1.trans l5
        refine neNil_ints (.inl (.inl (l5.h p _ (l1.nobox np) hp))) (u5.ext _ _ hp5) ?_
        walk_at "st"
        have hs5 := lu5.h sm _ nbs hsu
        refine setL hs5 (by omega) (by rw [List.length_map]; omega) ?_
        generalize hbb : (!(kp.filter fun y => decide (y ≤ 1 + (j : Int)) && bs.getD ((1 + (j : Int)) - y).toNat false).isEmpty) = b
        obtain ⟨u6, h6, k6, c6, l6, lk6, g6, kn6⟩ := put_w (o' := .lst ((bs.set (1 + (j : Int)).toNat b).map V.bl)) (lu.trans lu5) hs5 (lu5.own sm _ hsu ksu) nsm1
        rw [← List.map_set, ← h6]
        refine ⟨u6, rfl, _, _, rfl, l6, by omega, (lku.trans lu5.lk).trans lk6, by rw [h6, upd_ne nef]; exact lu5.h fo _ nbf hfu, by rw [k6]; exact lu5.own fo _ hfu kfu, g6, kn6, by rw [List.length_set]; exact bl, fun t ht => ?_⟩
        rw [show (1 + (j : Int)).toNat = 1 + j by omega, List.getElem?_set]
        by_cases et : 1 + j = t
        · rw [if_pos et, if_pos (by omega)]
          have hm := @mem_step kp (t : Int) (by omega)
          rw [hm]
          have eb : some b = some true ↔ b = true := ⟨fun z => Option.some.inj z, fun z => by rw [z]⟩
          rw [eb, ← hbb, Bool.not_eq_true', ← Bool.not_eq_true, List.isEmpty_iff]
          have : (¬ (kp.filter fun y => decide (y ≤ 1 + (j : Int)) && bs.getD ((1 + (j : Int)) - y).toNat false) = []) ↔ ∃ y ∈ kp, (decide (y ≤ 1 + (j : Int)) && bs.getD ((1 + (j : Int)) - y).toNat false) = true := by
            rw [List.filter_eq_nil_iff]
            constructor
            · intro h
              exact Classical.byContradiction fun h2 => h fun y hy hz => h2 ⟨y, hy, hz⟩
            · rintro ⟨y, hy, hz⟩ h
              exact h y hy hz
          rw [this]
          constructor
          · rintro ⟨y, hy, hz⟩
            rw [Bool.and_eq_true, decide_eq_true_eq] at hz
            have hy1 := kpos y hy
            refine ⟨y, hy, ?_⟩
            have h3 := (hb ((1 + (j : Int)) - y).toNat (by omega)).mp (by
              have := hz.2
              rw [List.getD_eq_getElem?_getD] at this
              cases e : bs[((1 + (j : Int)) - y).toNat]? with
              | none => rw [e] at this; cases this
              | some z => rw [e] at this; rw [show z = true from this])
            rwa [show ((((1 + (j : Int)) - y).toNat : Nat) : Int) = (t : Int) - y by omega] at h3
          · rintro ⟨y, hy, hz⟩
            have hy1 := kpos y hy
            have h0 := hz.nonneg kpos
            refine ⟨y, hy, ?_⟩
            rw [Bool.and_eq_true, decide_eq_true_eq]
            refine ⟨by omega, ?_⟩
            have h3 := (hb ((1 + (j : Int)) - y).toNat (by omega)).mpr (by
              rw [show ((((1 + (j : Int)) - y).toNat : Nat) : Int) = (t : Int) - y by omega]
              exact hz)
            rw [List.getD_eq_getElem?_getD, h3]
            rfl
        · rw [if_neg et]
          exact hb t (by omega)
    · rintro σ u ⟨s4, bs, rfl, lu, cu, lku, hfu, kfu, hsu, ksu, bl, hb⟩
      have hbn := hb n.toNat (by omega)
      rw [show ((n.toNat : Nat) : Int) = n by omega] at hbn
      have hg : bs[n.toNat]? = some bs[n.toNat] := List.getElem?_eq_getElem (by omega)
      walk_at "st"
      refine ix_l (.inl (.inl hsu)) (v := .bl bs[n.toNat]) (at_i (by omega) (by rw [List.getElem?_map, hg]; rfl)) ?_
      walk_at "st"
      cases eb : bs[n.toNat] with
      | true =>
        walk_at "st"
        rw [hg, eb] at hbn
        have mm := hbn.mp rfl
        have tk2 : minF (nz.take (i + 1)) = kp := by rw [tk, minF_snoc, hkp, minStep_yes mm]
        exact ⟨u, rfl, _, _, _, rfl, lu, cu, lku, by rw [tk2]; exact hfu, kfu⟩
      | false =>
        walk_at "st"
        rw [hg, eb] at hbn
        have mm : ¬ Mem kp n := fun z => by
          have := hbn.mpr z
          cases this
        refine ⟨isList hfu, ?_⟩
        walk_at "st"
        refine append_w hfu (by rw [List.length_map]; omega) ?_
        obtain ⟨u6, h6, k6, c6, l6, lk6, g6, kn6⟩ := put_w (o' := .lst ((minF (nz.take (i + 1))).map V.int)) lu hfu kfu n1
        have eo : kp.map V.int ++ [V.int n] = (minF (nz.take (i + 1))).map V.int := by
          rw [tk, minF_snoc, hkp, minStep_no mm, List.map_append]
          rfl
        rw [eo, ← h6]
        exact ⟨u6, rfl, _, _, _, rfl, l6, by omega, lku.trans lk6, g6, kn6⟩
  · rintro σ v ⟨s2, s3, s4, rfl, lv, cv, lk, hf, kf⟩
    rw [List.length_map, List.take_length] at hf
    walk_at "st"
    refine tupleOf_l (.inl (.inl hf)) fun p u lu cu np hp => ?_
    exact q _ u (lv.trans lu) (by omega) ⟨p, nz, rfl, A0, hp⟩
end

end Sb
set_option Elab.async false
set_option linter.all false
set_option maxRecDepth 100000
set_option maxHeartbeats 4000000
namespace Sb
open PySem PySem.Spec PyProof.Rows L2
open C8 (fnScope_by)
local macro_rules | `(tactic| walk_at "st") => `(tactic| repeat (first
  | ((with_reducible refine' x_var ?hvar ?_); (case hvar => rfl)) | with_reducible refine x_c ?_ | with_reducible refine x_op ?_ | with_reducible refine x_un ?_ | with_reducible refine x_test ?_ | with_reducible refine x_tb ?_
  | with_reducible refine x_and ?_ | with_reducible refine x_or ?_ | with_reducible refine x_not ?_ | with_reducible refine x_andV ?_ | with_reducible refine x_orV ?_ | with_reducible refine x_notV ?_ | with_reducible refine x_if ?_
  | with_reducible refine x_nil ?_ | with_reducible refine x_cons ?_ | with_reducible refine x_cb ?_ | with_reducible refine x_call ?_ | with_reducible refine x_callS ?_ | with_reducible refine x_callKS ?_ | with_reducible refine x_chain ?_ | with_reducible refine x_sl ?_
  | with_reducible refine x_part ?_ | with_reducible refine x_nopart ?_ | with_reducible refine x_seq ?_ | with_reducible refine x_asg ?_ | with_reducible refine x_gn ?_ | with_reducible refine x_gsub ?_ | with_reducible refine x_par ?_ | with_reducible refine x_par3 ?_
  | with_reducible refine x_ret ?_ | with_reducible refine x_drop ?_ | with_reducible refine x_ifS ?_ | with_reducible refine x_next ?_ | with_reducible refine x_I0 ?_ | with_reducible refine x_U ?_ | with_reducible refine x_eqI ?_
  | with_reducible refine x_eqS ?_ | with_reducible refine x_bm ?_ | with_reducible refine x_tup ?_ | with_reducible refine x_lst ?_ | with_reducible refine x_lstRg ?_ | with_reducible refine x_rg1 ?_ | with_reducible refine x_rg2 ?_
  | with_reducible refine x_forL ?_ | with_reducible refine x_forS ?_ | with_reducible refine x_forT ?_ | with_reducible refine x_forR1 ?_ | with_reducible refine x_forR2 ?_ | with_reducible refine x_lcL ?_ | with_reducible refine x_lcS ?_ | with_reducible refine x_lcR1 ?_ | with_reducible refine x_lcR2 ?_
  | with_reducible refine x_yes ?_ | with_reducible refine x_mkO ?_ | with_reducible refine x_dget ?_ | with_reducible refine x_din ?_ | with_reducible refine x_dnotin ?_ | with_reducible refine x_dput ?_ | with_reducible refine x_forR3 ?_ | with_reducible refine x_lcR3 ?_ | with_reducible refine x_lcD ?_ | with_reducible refine x_lc2R ?_
  | with_reducible refine iteF ?_ | with_reducible refine iteT ?_ | with_reducible refine iteNF ?_ | with_reducible refine iteNT ?_ | with_reducible refine ⟨_, rfl, ?_⟩ | with_reducible refine ⟨_, _, rfl, ?_⟩ | with_reducible refine ⟨_, _, rfl, rfl, ?_⟩))

/-! ### generators drawn -/
theorem perm_ints {ys : List V} {ns : List Int} (h : ys.Perm (ns.map V.int)) : ∃ ns' : List Int, ys = ns'.map V.int ∧ ns'.Perm ns := by
  let un : V → Int := fun v => match v with
    | .int i => i
    | _ => 0
  have e1 : (ns.map V.int).map un = ns := by
    rw [List.map_map]
    exact List.map_id ns
  refine ⟨ys.map un, ?_, by rw [← e1]; exact h.map un⟩
  rw [List.map_map]
  conv => lhs; rw [← List.map_id ys]
  apply List.map_congr_left
  intro y hy
  obtain ⟨n, _, rfl⟩ := List.mem_map.mp (h.mem_iff.mp hy)
  rfl
theorem at_last {xs : List V} {v : V} (h : xs[xs.length - 1]? = some v) : atI xs (-1) = some v := by
  have hl : xs.length ≠ 0 := fun z => by
    rw [List.length_eq_zero_iff.mp z] at h
    cases h
  unfold atI ixN
  rw [if_neg (by decide), if_pos (by omega)]
  show xs[_]? = _
  rw [show ((-1 : Int) + (xs.length : Nat)).toNat = xs.length - 1 by omega]
  exact h
section
variable {P : Program} {wd : World} {K : PySem.W.Frag} {mg : Str → Option Value} {base : Heap}
abbrev s_law_generators : Stmt := topS 33
theorem sc_law_generators : FnScope ["box", "most", "way", "low", "found", "turn", "x"] ["box", "most"] (defScope s_law_generators) := fnScope_by (by decide +kernel)
theorem bi_law_generators : BindsBy "_law_generators" s_law_generators ["box", "most"] := fun _ _ _ _ _ _ us hl => match us, hl with | [_, _], _ => rfl
/-- generators so far -/
structure GenL (w : Wo) (n c : Nat) (p : Addr) (fs : List Int) (v : Wo) : Prop where
  le : Le w v
  c : v.c ≤ w.c + c
  h : v.h p = some (.lst (fs.map V.int))
  k : v.k p = none
  n0 : w.h p = none
  l2 : 2 ≤ fs.length
  l : fs.length ≤ n
  pos : ∀ x ∈ fs, 1 ≤ x ∧ x ≤ 30
abbrev sp_law_generators : Sp := SpG (γ := Addr) (fun _ => 60) (fun g w vs => vs = [.ref g, .int 30] ∧ w.b = some g)
  (fun g w r u => ∃ p ns, r = .ref p ∧ w.h p = none ∧ u.h p = some (.lst (ns.map V.int)) ∧ u.k p = none ∧ Gn ns ∧ ns.length ≤ 40)
theorem c_law_generators (D : Df K mg "_law_generators" s_law_generators) (T : Tx mg) (c__law_take : Cal P wd K mg base CX0 1 "_law_take" ["box", "many"] sp_law_take) (c__law_mixed : Cal P wd K mg base CX0 2 "_law_mixed" ["box", "items"] (sp_law_mixed K)) (c__law_divisor : Cal P wd K mg base CX0 1 "_law_divisor" ["numbers"] sp_law_divisor) :
    Cal P wd K mg base CX0 3 "_law_generators" ["box", "most"] sp_law_generators := by
  have sc := sc_law_generators
  refine D.cal sc bi_law_generators (fun g w vs h => by rw [h.1]; rfl) (fun qual f cdv A outer s E g w vs Q hr hc hp q => ?_)
  obtain ⟨rfl, hb⟩ := hp
  refine ⟨_, (pss_cons (ps_set (i := 2) sc.nd rfl (.inl rfl) (pe_cc c__law_take hr (by first | decide | exact Nat.le_refl _) rfl (pa_cons (pv 0) (pa_cons (pe_int) pa_nil))))
    (Evl.pss_cut (ps_if (pt_cmpR op_eq (pv 2) (pe_int) (nomark _))
      (pss_cons (ps_set (i := 3) sc.nd rfl (.inl rfl) (pe_op op_add (pe_int) (pe_cc c__law_take hr (by first | decide | exact Nat.le_refl _) rfl (pa_cons (pv 0) (pa_cons (pe_callB (cr_max2 rfl) (by rfl) T.m_max boot_max (pa_cons (pe_int) (pa_cons (pe_op op_fdivN (pv 1) (pe_int)) pa_nil))) pa_nil)))))
      (pss_one (ps_set (i := 4) sc.nd rfl (.inl rfl) (pe_listRg rfl (by rfl) T.m_list (prg_2 (by rfl) T.m_range (pv 3) (pe_op op_add (pe_callB (cr_min2 rfl) (by rfl) T.m_min boot_min (pa_cons (pv 1) (pa_cons (pe_op op_add (pe_op op_add (pv 3) (pe_int)) (pe_cc c__law_take hr (by first | decide | exact Nat.le_refl _) rfl (pa_cons (pv 0) (pa_cons (pv 3) pa_nil)))) pa_nil))) (pe_int)))))))
      (pss_one (ps_if (pt_cmpR op_eq (pv 2) (pe_int) (nomark _))
        (pss_one (ps_set (i := 4) sc.nd rfl (.inl rfl) (pe_lst (pa_cons (pe_op op_add (pe_int) (pe_cc c__law_take hr (by first | decide | exact Nat.le_refl _) rfl (pa_cons (pv 0) (pa_cons (pv 1) pa_nil)))) (pa_cons (pe_int) pa_nil)))))
        (pss_one (ps_setLc (i := 4) rfl sc.nd rfl rfl (sw_true rfl rfl rfl (by decide +kernel))  (own := [("turn", 5)]) (pi_range1 (by rfl) T.m_range (pa_cons (pe_ix (show IxR _ (rIxL K) from ix_list) (pe_lst (pa_cons (pe_int) (pa_cons (pe_int) (pa_cons (pe_int) (pa_cons (pe_int) (pa_cons (pe_int) (pa_cons (pe_int) pa_nil))))))) (pe_cc c__law_take hr (by first | decide | exact Nat.le_refl _) rfl (pa_cons (pv 0) (pa_cons (pe_int) pa_nil))) (fun _ _ => rfl)) pa_nil)) (blkOk_by (N := ["box", "most", "way", "low", "found", "turn", "x"]) (sc := defScope s_law_generators) (by decide +kernel)) (fun _ _ _ _ _ => (pg_name (i := 5) sc.nd rfl (.inl rfl))) (fun _ _ _ _ _ => pts_nil) (fun _ _ _ _ _ => (pe_op op_add (pe_int) (pe_cc c__law_take hr (by first | decide | exact Nat.le_refl _) rfl (pa_cons (pv 0) (pa_cons (pe_op op_sub (pv 1) (pe_int)) pa_nil))))))))))
    (Evl.pss_cut (ps_if (pt_cmpR op_gt (pv 2) (pe_int) (nomark _))
      (pss_one (ps_set (i := 4) sc.nd rfl (.inl rfl) (pe_op op_cat (pv 4) (pe_lc rfl sc.nd (own := [("x", 6)]) (show PI _ _ _ (iList K _) from pi_list (pe_lst (pa_cons (pe_op op_add (pe_ix (show IxR _ (rIxL K) from ix_list) (pv 4) (pe_int) (fun _ _ => rfl)) (pe_ix (show IxR _ (rIxL K) from ix_list) (pv 4) (pe_int) (fun _ _ => rfl))) (pa_cons (pe_op op_mul (pe_int) (pe_ix (show IxR _ (rIxL K) from ix_list) (pv 4) (pe_int) (fun _ _ => rfl))) (pa_cons (pe_ix (show IxR _ (rIxL K) from ix_list) (pv 4) (pe_un un_neg (pe_int)) (fun _ _ => rfl)) pa_nil))))) (blkOk_by (N := ["box", "most", "way", "low", "found", "turn", "x"]) (sc := defScope s_law_generators) (by decide +kernel)) (fun _ _ _ _ _ => (pg_name (i := 6) sc.nd rfl (.inl rfl))) (fun _ _ _ _ _ => (pts_one (pt_cmpR op_le (pv 6) (pv 1) (nomark _)))) (fun _ _ _ _ _ => (pv 6))))))
      pss_nil)
    (pss_cons (ps_for PassesOwn.never rfl (pi_range1 (by rfl) T.m_range (pa_cons (pe_int) pa_nil)) (pg_name (i := 5) sc.nd rfl (.inl rfl))
      (pss_one (ps_if (pt_cmpR op_gt (pe_cc c__law_divisor hr (by first | decide | exact Nat.le_refl _) rfl (pa_cons (pv 4) pa_nil)) (pe_int) (nomark _))
        (pss_one (ps_expr (show PE _ _ (tBM K _ _ _ _) from pe_bm PySem.F.plainAttrs_list PySem.F.slot_list_append PySem.F.type_list_append mt_append (pv 4) (pa_cons (pe_op op_add (pe_int) (pe_cc c__law_take hr (by first | decide | exact Nat.le_refl _) rfl (pa_cons (pv 0) (pa_cons (pe_op op_sub (pv 1) (pe_int)) pa_nil)))) pa_nil))))
        pss_nil)))
    (Evl.pss_cut (ps_if (pt_cmpR op_gt (pe_cc c__law_divisor hr (by first | decide | exact Nat.le_refl _) rfl (pa_cons (pv 4) pa_nil)) (pe_int) (nomark _))
      (pss_one (ps_expr (show PE _ _ (tBM K _ _ _ _) from pe_bm PySem.F.plainAttrs_list PySem.F.slot_list_append PySem.F.type_list_append mt_append (pv 4) (pa_cons (pe_ifExp (pt_cmpR op_lt (pe_ix (show IxR _ (rIxL K) from ix_list) (pv 4) (pe_int) (fun _ _ => rfl)) (pv 1) (nomark _)) (pe_op op_add (pe_ix (show IxR _ (rIxL K) from ix_list) (pv 4) (pe_int) (fun _ _ => rfl)) (pe_int)) (pe_op op_sub (pe_ix (show IxR _ (rIxL K) from ix_list) (pv 4) (pe_int) (fun _ _ => rfl)) (pe_int))) pa_nil))))
      pss_nil)
    (pss_one (ps_ret (pe_cc c__law_mixed hr (by first | decide | exact Nat.le_refl _) rfl (pa_cons (pv 0) (pa_cons (pv 4) pa_nil)))))))))), ?_⟩
  walk_at "st"
  have take : ∀ (v : Wo) (m : Int) (Q : VK), Le w v → v.c + 1 ≤ w.c + 60 → 1 ≤ m → m < 1073741824 → (∀ i u, Le v u → u.c ≤ v.c + 1 → 0 ≤ i → i < m → Q (.int i) u.h) → sp_law_take [.ref g, .int m] v.h Q E0 := fun v m Q l c m0 m1 k =>
    ⟨(g, m), v, rfl, by show v.c + 1 ≤ MAXC; omega, ⟨rfl, l.b.trans hb, m0, m1⟩, fun r u lu cu ⟨i, e, i0, i1⟩ => by
      subst e
      exact k i u lu cu i0 i1⟩
  refine take w 8 _ (Le.refl _) (by omega) (by decide) (by decide) fun wy w1 l1 c1 wy0 wy1 => ?_
  walk_at "st"
  refine ⟨At fun σ v => ∃ s3 s5 p fs, σ = [some (.ref g), some (.int 30), some (.int wy), s3, some (.ref p), s5, none] ∧ GenL w 12 8 p fs v, ?_, ?_⟩
  · walk_at "st"
    refine ite_b (fun e => ?_) (fun e => ?_)
    · walk_at "st"
      refine x_I ⟨by decide, by decide⟩ ?_
      walk_at "st"
      refine max2_i ?_
      rw [show max (1 : Int) ((30 : Int).fdiv 3) = 10 by decide]
      walk_at "st"
      refine take w1 10 _ l1 (by omega) (by decide) (by decide) fun i w2 l2 c2 i0 i1 => ?_
      walk_at "st"
      refine take w2 _ _ (l1.trans l2) (by omega) (by omega) (by omega) fun j w3 l3 c3 j0 j1 => ?_
      walk_at "st"
      refine min2_i ?_
      walk_at "st"
      generalize hhi : min (30 : Int) (2 + i + 1 + j) + 1 = hi
      refine rg_o (by omega) (by omega) (by omega) (by omega) fun p w4 l4 c4 n4 hp4 kp4 _ => ?_
      walk_at "st"
      refine ⟨w4, rfl, _, _, p, (List.range (hi - (2 + i)).toNat).map fun k : Nat => 2 + i + (k : Int), rfl, ((l1.trans l2).trans l3).trans l4, by omega, ?_, kp4, ((l1.trans l2).trans l3).fresh n4, ?_, ?_, ?_⟩
      · rw [List.map_map]
        exact hp4
      · rw [List.length_map, List.length_range]; omega
      · rw [List.length_map, List.length_range]; omega
      · intro x hx
        obtain ⟨k, hk, rfl⟩ := List.mem_map.mp hx
        have := List.mem_range.mp hk
        omega
    · walk_at "st"
      refine ite_b (fun e => ?_) (fun e => ?_)
      · walk_at "st"
        refine take w1 30 _ l1 (by omega) (by decide) (by decide) fun i w2 l2 c2 i0 i1 => ?_
        walk_at "st"
        refine lst_o (by show 2 ≤ 1000000; decide) fun p w3 l3 c3 n3 hp3 kp3 _ => ?_
        walk_at "st"
        refine ⟨w3, rfl, _, _, p, [1 + i, 1], rfl, (l1.trans l2).trans l3, by omega, hp3, kp3, (l1.trans l2).fresh n3, by simp, by simp, ?_⟩
        intro x hx
        simp only [List.mem_cons, List.not_mem_nil, or_false] at hx
        omega
      · walk_at "st"
        refine lst_k (by show 6 ≤ 1000000; decide) fun p0 w2 l2 c2 n2 hp2 => ?_
        walk_at "st"
        refine take w2 6 _ (l1.trans l2) (by omega) (by decide) (by decide) fun i w3 l3 c3 i0 i1 => ?_
        have hn : ∃ n : Int, [(2 : Int), 2, 3, 3, 4, 5][i.toNat]? = some n ∧ 2 ≤ n ∧ n ≤ 5 := by
          have hl : i.toNat < [(2 : Int), 2, 3, 3, 4, 5].length := by show i.toNat < 6; omega
          refine ⟨_, List.getElem?_eq_getElem hl, ?_⟩
          have := List.getElem_mem hl
          simp only [List.mem_cons, List.not_mem_nil, or_false] at this
          omega
        obtain ⟨n, hn, n0, n1⟩ := hn
        refine ix_l (.inl (.inl (w3.ext _ _ (l3.k _ _ hp2)))) (v := .int n) (at_i i0 (by
          show ([(2 : Int), 2, 3, 3, 4, 5].map V.int)[i.toNat]? = _
          rw [List.getElem?_map, hn]
          rfl)) ?_
        have l13 := (l1.trans l2).trans l3
        walk_at "st"
        refine lc_r1 (by omega) (by omega) ⟨1, fun k acc _ => ∃ fs : List Int, acc = fs.map V.int ∧ fs.length = k ∧ ∀ x ∈ fs, 1 ≤ x ∧ x ≤ 30, ⟨[], rfl, rfl, by simp⟩, by omega, fun k x acc v hk hx lv cv hI Qy Qn qy qn => ?_, fun p xs v lv cv np hp kp hI => ?_⟩
        · refine x_gn ⟨rfl, x_yes ?_⟩
          walk_at "st"
          refine take v 29 _ (l13.trans lv) (by omega) (by decide) (by decide) fun y u lu cu y0 y1 => ?_
          walk_at "st"
          obtain ⟨fs, rfl, hl, hp⟩ := hI
          refine qy _ u lu (by omega) ⟨fs ++ [2 + y], by rw [List.map_append]; rfl, by rw [List.length_append, hl]; rfl, fun x hx => ?_⟩
          rcases List.mem_append.mp hx with z | z
          · exact hp x z
          · rw [List.mem_singleton.mp z]; omega
        · obtain ⟨fs, rfl, hl, hpos⟩ := hI
          walk_at "st"
          exact ⟨v, rfl, _, _, p, fs, rfl, l13.trans lv, by omega, hp, kp, l13.fresh np, by omega, by omega, hpos⟩
  · rintro σ _ ⟨v, rfl, s3, s5, p, fs, rfl, F⟩
    refine ⟨At fun σ v => ∃ s3 s5 p fs, σ = [some (.ref g), some (.int 30), some (.int wy), s3, some (.ref p), s5, none] ∧ GenL w 15 8 p fs v, ?_, ?_⟩
    · walk_at "st"
      refine ite_b (fun e => ?_) (fun e => ?_)
      · obtain ⟨x0, h0⟩ : ∃ x, fs[0]? = some x := ⟨_, List.getElem?_eq_getElem (by have := F.l2; omega)⟩
        obtain ⟨x1, h1⟩ : ∃ x, fs[1]? = some x := ⟨_, List.getElem?_eq_getElem (by have := F.l2; omega)⟩
        obtain ⟨xl, hl⟩ : ∃ x, fs[fs.length - 1]? = some x := ⟨_, List.getElem?_eq_getElem (by have := F.l2; omega)⟩
        have sq : SqL K v.h p (fs.map V.int) := .inl (.inl F.h)
        have g0 : atI (fs.map V.int) 0 = some (.int x0) := at_i (by decide) (by rw [List.getElem?_map]; show Option.map _ fs[0]? = _; rw [h0]; rfl)
        have g1 : atI (fs.map V.int) 1 = some (.int x1) := at_i (by decide) (by rw [List.getElem?_map]; show Option.map _ fs[1]? = _; rw [h1]; rfl)
        have gl : atI (fs.map V.int) (-1) = some (.int xl) := at_last (by rw [List.length_map, List.getElem?_map, hl]; rfl)
        have p0 := F.pos x0 (List.mem_of_getElem? h0)
        have p1 := F.pos x1 (List.mem_of_getElem? h1)
        have pl := F.pos xl (List.mem_of_getElem? hl)
        walk_at "st"
        refine ix_l sq g0 ?_
        walk_at "st"
        refine ix_l sq g1 ?_
        walk_at "st"
        refine ix_l sq g0 ?_
        walk_at "st"
        refine x_I (.inl ⟨by decide, by decide⟩) ?_
        walk_at "st"
        refine ix_l sq gl ?_
        walk_at "st"
        refine lst_k (by show 3 ≤ 1000000; decide) fun pa va la ca _ hpa => ?_
        refine lc_lst (xs := [x0 + x1, 2 * x0, xl].map V.int) (.inl (.inl hpa)) (lc_map (fun i => decide (([x0 + x1, 2 * x0, xl].getD i 0) ≤ 30)) (fun i => .int ([x0 + x1, 2 * x0, xl].getD i 0)) (by show 3 ≤ 1000000; decide) (fun i x u hi hx lu cu Qy Qn qy qn => ?_) (fun p2 u lu cu np2 hp2 kp2 => ?_))
        · obtain ⟨y, hy, rfl⟩ := c_are_generators.map_get hx
          have ey : [x0 + x1, 2 * x0, xl].getD i 0 = y := by rw [List.getD_eq_getElem?_getD, hy]; rfl
          rw [ey] at qy qn
          refine x_gn ⟨rfl, ?_⟩
          walk_at "st"
          refine ite_b (fun e => ?_) (fun e => ?_)
          · walk_at "st"
            exact qy e u (Le.refl _) rfl
          · exact qn e u (Le.refl _) rfl
        · have eg := given_list [x0 + x1, 2 * x0, xl] (fun y => decide (y ≤ 30)) V.int (fun i => decide (([x0 + x1, 2 * x0, xl].getD i 0) ≤ 30)) (fun i => .int ([x0 + x1, 2 * x0, xl].getD i 0)) (fun j x hx => by rw [List.getD_eq_getElem?_getD, hx]; rfl) (fun j x hx _ => by rw [List.getD_eq_getElem?_getD, hx]; rfl)
          rw [List.length_map, eg] at hp2
          have fl : ([x0 + x1, 2 * x0, xl].filter fun y => decide (y ≤ 30)).length ≤ 3 := List.length_filter_le _ _
          have L := F.l
          refine cat_o ((la.trans lu).h p _ (F.le.nobox F.n0) F.h) hp2 (by rw [List.length_map, List.length_map]; omega) fun p3 u3 l3 c3 n3 hp3 kp3 _ => ?_
          walk_at "st"
          refine ⟨u3, rfl, _, _, p3, fs ++ [x0 + x1, 2 * x0, xl].filter fun y => decide (y ≤ 30), rfl, ((F.le.trans la).trans lu).trans l3, by have := F.c; omega, by rw [List.map_append]; exact hp3, kp3, (F.le.trans (la.trans lu)).fresh n3, by rw [List.length_append]; have := F.l2; omega, by rw [List.length_append]; omega, fun x hx => ?_⟩
          rcases List.mem_append.mp hx with z | z
          · exact F.pos x z
          · have z' := List.mem_filter.mp z
            have h30 := of_decide_eq_true z'.2
            have z1 := z'.1
            simp only [List.mem_cons, List.not_mem_nil, or_false] at z1
            omega
      · walk_at "st"
        exact ⟨v, rfl, _, _, p, fs, rfl, F.le, F.c, F.h, F.k, F.n0, F.l2, by have := F.l; omega, F.pos⟩
    · rintro σ _ ⟨v, rfl, s3, s5, p, fs, rfl, F⟩
      walk_at "st"
      have div : ∀ (v : Wo) (n c : Nat) (p : Addr) (fs : List Int) (Q : VK), GenL w n c p fs v → n ≤ 100 → c ≤ 60 → (∀ d u, Le v u → u.c ≤ v.c + 0 → 1 ≤ d → (d ≤ 1 → ∀ e, 2 ≤ e → ¬ ∀ x ∈ fs, e ∣ x) → Q (.int d) u.h) → sp_law_divisor [.ref p] v.h Q E0 := fun v n c p fs Q F hn hc2 k =>
        ⟨(p, fs), v, rfl, by show v.c + 0 ≤ MAXC; have := F.c; omega, ⟨rfl, F.h, F.le.nobox F.n0, fun e => by have := F.l2; have e : fs = [] := e; rw [e] at this; exact absurd this (by decide), fun x hx => ⟨(F.pos x hx).1, by have := (F.pos x hx).2; omega⟩, by have := F.l; show fs.length ≤ 1000; omega⟩, fun r u lu cu ⟨d, e, h1, h2⟩ => by
          subst e
          exact k d u lu cu h1 h2⟩
      refine for_r1 (by decide) (by decide) ⟨fun i σ v => ∃ s5 fs, σ = [some (.ref g), some (.int 30), some (.int wy), s3, some (.ref p), s5, none] ∧ GenL w (15 + i) (8 + i) p fs v, ⟨s5, fs, rfl, F⟩, fun _ _ _ _ _ => trivial, ?_, ?_⟩
      · rintro i x σ v hi rfl ⟨s5, fs, rfl, F⟩
        have hi : i < 8 := hi
        walk_at "st"
        refine div v _ _ p fs _ F (by omega) (by omega) fun d u lu cu d1 hd => ?_
        have hfu := lu.h p _ (F.le.nobox F.n0) F.h
        have kfu := lu.own p _ F.h F.k
        have c1 := F.c
        have l1 := F.l
        walk_at "st"
        refine ite_b (fun e => ?_) (fun e => ?_)
        · walk_at "st"
          refine ⟨isList hfu, ?_⟩
          walk_at "st"
          refine take u 29 _ (F.le.trans lu) (by omega) (by decide) (by decide) fun y u2 l2 c2 y0 y1 => ?_
          walk_at "st"
          have hf2 := l2.h p _ ((F.le.trans lu).nobox F.n0) hfu
          refine append_w hf2 (by rw [List.length_map]; omega) ?_
          obtain ⟨u6, h6, k6, c6, l6, lk6, g6, kn6⟩ := put_w (o' := .lst ((fs ++ [2 + y]).map V.int)) ((F.le.trans lu).trans l2) hf2 (l2.own p _ hfu kfu) F.n0
          have eo : fs.map V.int ++ [V.int (2 + y)] = (fs ++ [2 + y]).map V.int := by rw [List.map_append]; rfl
          rw [eo, ← h6]
          refine ⟨u6, rfl, _, _, rfl, l6, by omega, g6, kn6, F.n0, by rw [List.length_append]; have := F.l2; omega, by rw [List.length_append, List.length_singleton]; omega, fun x hx => ?_⟩
          rcases List.mem_append.mp hx with z | z
          · exact F.pos x z
          · rw [List.mem_singleton.mp z]; omega
        · walk_at "st"
          exact ⟨u, rfl, _, fs, rfl, F.le.trans lu, by omega, hfu, kfu, F.n0, F.l2, by omega, F.pos⟩
      · rintro σ v ⟨s5, fs, rfl, F⟩
        have F : GenL w 23 16 p fs v := F
        walk_at "st"
        refine ⟨At fun σ v => ∃ s5 fs, σ = [some (.ref g), some (.int 30), some (.int wy), s3, some (.ref p), s5, none] ∧ GenL w 24 16 p fs v ∧ Gn fs, ?_, ?_⟩
        · walk_at "st"
          refine div v _ _ p fs _ F (by omega) (by omega) fun d u lu cu d1 hd => ?_
          have hfu := lu.h p _ (F.le.nobox F.n0) F.h
          have kfu := lu.own p _ F.h F.k
          have c1 := F.c
          have l1 := F.l
          have ne : fs ≠ [] := fun e => by have := F.l2; rw [e] at this; exact absurd this (by decide)
          walk_at "st"
          refine ite_b (fun e => ?_) (fun e => ?_)
          · obtain ⟨x0, h0⟩ : ∃ x, fs[0]? = some x := ⟨_, List.getElem?_eq_getElem (by have := F.l2; omega)⟩
            have g0 : atI (fs.map V.int) 0 = some (.int x0) := at_i (by decide) (by rw [List.getElem?_map]; show Option.map _ fs[0]? = _; rw [h0]; rfl)
            have p0 := F.pos x0 (List.mem_of_getElem? h0)
            have sq : SqL K u.h p (fs.map V.int) := .inl (.inl hfu)
            walk_at "st"
            refine ⟨isList hfu, ?_⟩
            walk_at "st"
            refine ix_l sq g0 ?_
            have fin : ∀ y, (y = x0 + 1 ∨ y = x0 - 1) → 1 ≤ y → y ≤ 30 → At (fun σ v => ∃ s5 fs, σ = [some (.ref g), some (.int 30), some (.int wy), s3, some (.ref p), s5, none] ∧ GenL w 24 16 p fs v ∧ Gn fs) [some (.ref g), some (.int 30), some (.int wy), s3, some (.ref p), s5, none] (upd u.h p (.lst (fs.map V.int ++ [V.int y]))) := fun y hy y0 y1 => by
              obtain ⟨u6, h6, k6, c6, l6, lk6, g6, kn6⟩ := put_w (o' := .lst ((fs ++ [y]).map V.int)) (F.le.trans lu) hfu kfu F.n0
              have eo : fs.map V.int ++ [V.int y] = (fs ++ [y]).map V.int := by rw [List.map_append]; rfl
              rw [eo, ← h6]
              have pos : ∀ x ∈ fs ++ [y], 1 ≤ x ∧ x ≤ 30 := fun x hx => by
                rcases List.mem_append.mp hx with z | z
                · exact F.pos x z
                · rw [List.mem_singleton.mp z]; omega
              refine ⟨u6, rfl, s5, fs ++ [y], rfl, ⟨l6, by omega, g6, kn6, F.n0, by rw [List.length_append]; have := F.l2; omega, by rw [List.length_append, List.length_singleton]; omega, pos⟩, fun x hx => ⟨(pos x hx).1, by have := (pos x hx).2; omega⟩, by simp, fun e he hall => ?_⟩
              have d0 := hall x0 (List.mem_append_left _ (List.mem_of_getElem? h0))
              have d1 := hall y (List.mem_append_right _ List.mem_cons_self)
              have d2 : e ∣ 1 := by
                rcases hy with rfl | rfl
                · have := Int.dvd_sub d1 d0
                  rwa [show x0 + 1 - x0 = 1 by omega] at this
                · have := Int.dvd_sub d0 d1
                  rwa [show x0 - (x0 - 1) = 1 by omega] at this
              have := Int.le_of_dvd (by decide) d2
              omega
            walk_at "st"
            refine ite_b (fun e => ?_) (fun e => ?_)
            · have e' := of_decide_eq_true e
              walk_at "st"
              refine ix_l sq g0 ?_
              walk_at "st"
              refine append_w hfu (by rw [List.length_map]; omega) ?_
              exact fin (x0 + 1) (.inl rfl) (by omega) (by omega)
            · have e' := of_decide_eq_false e
              walk_at "st"
              refine ix_l sq g0 ?_
              walk_at "st"
              refine append_w hfu (by rw [List.length_map]; omega) ?_
              exact fin (x0 - 1) (.inr rfl) (by omega) (by omega)
          · have e' := of_decide_eq_false e
            walk_at "st"
            exact ⟨u, rfl, _, fs, rfl, ⟨F.le.trans lu, by omega, hfu, kfu, F.n0, F.l2, by omega, F.pos⟩, fun x hx => ⟨(F.pos x hx).1, by have := (F.pos x hx).2; omega⟩, ne, hd (by omega)⟩
        · rintro σ _ ⟨v, rfl, s5, fs, rfl, F, G⟩
          obtain ⟨z, zh, zk⟩ := frz_w (w1 := w) F.le F.n0 F.h F.k (Le.refl _)
          rw [← zh.1]
          walk_at "st"
          have lf := F.l
          have cf := F.c
          refine ⟨(g, p, fs.map V.int), z, rfl, by show z.c + (fs.map V.int).length ≤ MAXC; rw [List.length_map, zh.2.2]; omega, ⟨rfl, zh.2.1.b.trans hb, .inl (.inl (.inl zk)), by show (fs.map V.int).length ≤ 1000; rw [List.length_map]; omega⟩, ?_⟩
          rintro r u lu cu ⟨p2, ys, rfl, n2, h2, k2, pm⟩
          have cu : u.c ≤ z.c + (fs.map V.int).length := cu
          rw [List.length_map, zh.2.2] at cu
          obtain ⟨ns, rfl, pn⟩ := perm_ints pm
          exact q _ u (zh.2.1.trans lu) (by omega) ⟨p2, ns, rfl, zh.2.1.fresh n2, h2, k2, G.perm pn.symm, by rw [pn.length_eq]; omega⟩
end

end Sb
set_option Elab.async false
set_option linter.all false
set_option maxRecDepth 100000
set_option maxHeartbeats 4000000
namespace Sb
open PySem PySem.Spec PyProof.Rows L2
open C8 (fnScope_by)
local macro_rules | `(tactic| walk_at "st") => `(tactic| repeat (first
  | ((with_reducible refine' x_var ?hvar ?_); (case hvar => rfl)) | with_reducible refine x_c ?_ | with_reducible refine x_op ?_ | with_reducible refine x_un ?_ | with_reducible refine x_test ?_ | with_reducible refine x_tb ?_
  | with_reducible refine x_and ?_ | with_reducible refine x_or ?_ | with_reducible refine x_not ?_ | with_reducible refine x_andV ?_ | with_reducible refine x_orV ?_ | with_reducible refine x_notV ?_ | with_reducible refine x_if ?_
  | with_reducible refine x_nil ?_ | with_reducible refine x_cons ?_ | with_reducible refine x_cb ?_ | with_reducible refine x_call ?_ | with_reducible refine x_callS ?_ | with_reducible refine x_callKS ?_ | with_reducible refine x_chain ?_ | with_reducible refine x_sl ?_
  | with_reducible refine x_part ?_ | with_reducible refine x_nopart ?_ | with_reducible refine x_seq ?_ | with_reducible refine x_asg ?_ | with_reducible refine x_gn ?_ | with_reducible refine x_gsub ?_ | with_reducible refine x_par ?_ | with_reducible refine x_par3 ?_
  | with_reducible refine x_ret ?_ | with_reducible refine x_drop ?_ | with_reducible refine x_ifS ?_ | with_reducible refine x_next ?_ | with_reducible refine x_I0 ?_ | with_reducible refine x_U ?_ | with_reducible refine x_eqI ?_
  | with_reducible refine x_eqS ?_ | with_reducible refine x_bm ?_ | with_reducible refine x_tup ?_ | with_reducible refine x_lst ?_ | with_reducible refine x_lstRg ?_ | with_reducible refine x_rg1 ?_ | with_reducible refine x_rg2 ?_
  | with_reducible refine x_forL ?_ | with_reducible refine x_forS ?_ | with_reducible refine x_forT ?_ | with_reducible refine x_forR1 ?_ | with_reducible refine x_forR2 ?_ | with_reducible refine x_lcL ?_ | with_reducible refine x_lcS ?_ | with_reducible refine x_lcR1 ?_ | with_reducible refine x_lcR2 ?_
  | with_reducible refine x_yes ?_ | with_reducible refine x_mkO ?_ | with_reducible refine x_dget ?_ | with_reducible refine x_din ?_ | with_reducible refine x_dnotin ?_ | with_reducible refine x_dput ?_ | with_reducible refine x_forR3 ?_ | with_reducible refine x_lcR3 ?_ | with_reducible refine x_lcD ?_ | with_reducible refine x_lc2R ?_
  | with_reducible refine iteF ?_ | with_reducible refine iteT ?_ | with_reducible refine iteNF ?_ | with_reducible refine iteNT ?_ | with_reducible refine ⟨_, rfl, ?_⟩ | with_reducible refine ⟨_, _, rfl, ?_⟩ | with_reducible refine ⟨_, _, rfl, rfl, ?_⟩))

/-! ### values that are no generators -/
def Bad (K : PySem.W.Frag) (H : Hp) (v : V) : Prop := ∃ d, Dat K H v d ∧ gensOK d = false ∧ noKeys d = true ∧ dep d ≤ 3
theorem Bad.mono {K : PySem.W.Frag} {H H' : Hp} {v : V} (e : Same H H') (b : Bad K H v) : Bad K H' v := by
  obtain ⟨d, h, r⟩ := b
  exact ⟨d, h.mono e, r⟩
def BadL (K : PySem.W.Frag) (H : Hp) (xs : List V) : Prop := ∀ v ∈ xs, Bad K H v
theorem BadL.le {K : PySem.W.Frag} {w u : Wo} {xs : List V} (b : BadL K w.k xs) (l : Le w u) : BadL K u.k xs := fun v hv => (b v hv).mono l.k
theorem BadL.add {K : PySem.W.Frag} {H : Hp} {xs : List V} {v : V} (b : BadL K H xs) (h : Bad K H v) : BadL K H (v :: xs) := fun x hx => by
  rcases List.mem_cons.mp hx with z | z
  · rw [z]; exact h
  · exact b x z
theorem BadL.rev {K : PySem.W.Frag} {H : Hp} {xs ys : List V} (b : BadL K H xs) (e : ys.reverse = xs) : BadL K H ys := fun x hx => b x (by rw [← e]; exact List.mem_reverse.mpr hx)
theorem gens_not {ds : List PyData} {d : PyData} (hd : d ∈ ds) (h : isW 1 200 d = false) : gensOK (.list ds) = false := by
  unfold gensOK
  have : (itemsD (.list ds)).all (isW 1 200) = false := by
    rw [Bool.eq_false_iff]
    intro z
    have := List.all_eq_true.mp z d hd
    rw [h] at this
    cases this
  rw [this]
  simp
theorem depAll_nil : depAll [] = 0 := rfl
theorem depAll_cons {x : PyData} {r : List PyData} : depAll (x :: r) = max (dep x) (depAll r) := rfl
theorem keysAll_nil : noKeysAll [] = true := rfl
theorem keysAll_cons {x : PyData} {r : List PyData} : noKeysAll (x :: r) = (noKeys x && noKeysAll r) := rfl
theorem dep_ints : ∀ ns : List Int, depAll (ns.map PyData.int) ≤ 1
  | [] => by rw [List.map_nil, depAll_nil]; omega
  | n :: r => by
    have := dep_ints r
    rw [List.map_cons, depAll_cons, show dep (.int n) = 1 from rfl]
    omega
theorem keys_ints : ∀ ns : List Int, noKeysAll (ns.map PyData.int) = true
  | [] => rfl
  | n :: r => by
    rw [List.map_cons, keysAll_cons, keys_ints r]
    rfl
theorem depAll_app : ∀ xs ys : List PyData, depAll (xs ++ ys) = max (depAll xs) (depAll ys)
  | [], ys => by
    rw [List.nil_append, depAll_nil]
    omega
  | x :: r, ys => by
    rw [List.cons_append, depAll_cons, depAll_cons, depAll_app r ys]
    omega
theorem keysAll_app : ∀ xs ys : List PyData, noKeysAll (xs ++ ys) = (noKeysAll xs && noKeysAll ys)
  | [], ys => rfl
  | x :: r, ys => by
    rw [List.cons_append, keysAll_cons, keysAll_cons, keysAll_app r ys, Bool.and_assoc]
theorem bad_app {K : PySem.W.Frag} {H : Hp} {p : Addr} {ns : List Int} {v : V} {d : PyData} (h : H p = some (.lst (ns.map V.int ++ [v]))) (hl : ns.length ≤ 1000) (hv : Dat K H v d) (h1 : isW 1 200 d = false) (h2 : noKeys d = true) (h3 : dep d = 1) : Bad K H (.ref p) := by
  refine ⟨.list (ns.map PyData.int ++ [d]), .lst h ((Dats.ints ns).append (.cons hv .nil)), gens_not (List.mem_append_right _ List.mem_cons_self) h1, ?_, ?_⟩
  · show (decide ((ns.map PyData.int ++ [d]).length ≤ 1000000) && noKeysAll (ns.map PyData.int ++ [d])) = true
    rw [keysAll_app, keys_ints, decide_eq_true (by rw [List.length_append, List.length_map, List.length_singleton]; omega)]
    show noKeysAll [d] = true
    rw [keysAll_cons, h2]
    rfl
  · show depAll (ns.map PyData.int ++ [d]) + 1 ≤ 3
    rw [depAll_app]
    have := dep_ints ns
    have h4 : depAll [d] = 1 := by
      rw [depAll_cons, h3]
      rfl
    omega
theorem bad_ints {K : PySem.W.Frag} {H : Hp} {p : Addr} {ns : List Int} (h : H p = some (.lst (ns.map V.int))) (hl : ns.length ≤ 1000) (e : ¬ Gn ns) : Bad K H (.ref p) := by
  refine ⟨.list (ns.map PyData.int), .lst h (Dats.ints ns), ?_, ?_, ?_⟩
  · rw [Bool.eq_false_iff]
    intro z
    obtain ⟨a, ms, hv, _, hns, G⟩ := gens_ns (K := K) (H := H) z (.lst h (Dats.ints ns))
    have inj : ∀ {xs ys : List Int}, xs.map PyData.int = ys.map PyData.int → xs = ys := by
      intro xs
      induction xs with
      | nil => intro ys h; cases ys with
        | nil => rfl
        | cons _ _ => cases h
      | cons x r ih => intro ys h; cases ys with
        | nil => cases h
        | cons y t =>
          rw [List.map_cons, List.map_cons] at h
          injection h with h1 h2
          injection h1 with h1
          rw [h1, ih h2]
    have : ns = ms := inj hns
    rw [← this] at G
    exact e G
  · show (decide ((ns.map PyData.int).length ≤ 1000000) && noKeysAll (ns.map PyData.int)) = true
    rw [keys_ints, decide_eq_true (by rw [List.length_map]; omega)]
    rfl
  · show depAll (ns.map PyData.int) + 1 ≤ 3
    have := dep_ints ns
    omega
section
variable {P : Program} {wd : World} {K : PySem.W.Frag} {mg : Str → Option Value} {base : Heap}
abbrev s_law_no_generators : Stmt := topS 37
theorem sc_law_no_generators : FnScope ["box", "generators", "found", "x"] ["box", "generators"] (defScope s_law_no_generators) := fnScope_by (by decide +kernel)
theorem bi_law_no_generators : BindsBy "_law_no_generators" s_law_no_generators ["box", "generators"] := fun _ _ _ _ _ _ us hl => match us, hl with | [_, _], _ => rfl
abbrev sp_law_no_generators (K : PySem.W.Frag) : Sp := SpG (γ := Addr × Addr × List Int) (fun _ => 25) (fun g w vs => vs = [.ref g.1, .ref g.2.1] ∧ w.b = some g.1 ∧ w.k g.2.1 = some (.lst (g.2.2.map V.int)) ∧ Gn g.2.2 ∧ g.2.2.length ≤ 40) (fun g w r u => Bad K u.k r)
theorem c_law_no_generators (D : Df K mg "_law_no_generators" s_law_no_generators) (T : Tx mg) (c__law_mixed : Cal P wd K mg base CX0 2 "_law_mixed" ["box", "items"] (sp_law_mixed K)) : Cal P wd K mg base CX0 3 "_law_no_generators" ["box", "generators"] (sp_law_no_generators K) := by
  have sc := sc_law_no_generators
  refine D.cal sc bi_law_no_generators (fun g w vs h => by rw [h.1]; rfl) (fun qual f cdv A outer s E g w vs Q hr hc hp q => ?_)
  obtain ⟨b, a, ns⟩ := g
  dsimp only at hp hc q
  obtain ⟨rfl, hb, ha, G, hlen⟩ := hp
  refine ⟨_, (pss_cons (ps_set (i := 2) sc.nd rfl (.inl rfl) (pe_lst (pa_cons (pe_non) (pa_cons (pe_int) (pa_cons (pe_str) (pa_cons (pe_dnewK) (pa_cons (pe_lst pa_nil) (pa_cons (pe_tup pa_nil) (pa_cons (pe_lst (pa_cons (pe_int) pa_nil)) (pa_cons (pe_lst (pa_cons (pe_int) (pa_cons (pe_int) pa_nil))) (pa_cons (pe_lst (pa_cons (pe_int) (pa_cons (pe_int) (pa_cons (pe_int) pa_nil)))) (pa_cons (pe_lst (pa_cons (pe_int) pa_nil)) (pa_cons (pe_lst (pa_cons (pe_int) (pa_cons (pe_int) pa_nil))) (pa_cons (pe_lst (pa_cons (pe_int) (pa_cons (pe_int) pa_nil))) (pa_cons (pe_lst (pa_cons (pe_int) (pa_cons (pe_un un_neg (pe_int)) pa_nil))) (pa_cons (pe_lst (pa_cons (pe_bl) pa_nil)) (pa_cons (pe_lst (pa_cons (pe_int) (pa_cons (pe_bl) pa_nil))) (pa_cons (pe_lst (pa_cons (pe_int) (pa_cons (pe_str) pa_nil))) (pa_cons (pe_lst (pa_cons (pe_int) (pa_cons (pe_non) pa_nil))) (pa_cons (pe_lst (pa_cons (pe_lst (pa_cons (pe_int) pa_nil)) (pa_cons (pe_int) pa_nil))) (pa_cons (pe_lst (pa_cons (pe_int) (pa_cons (pe_tup (pa_cons (pe_int) pa_nil)) pa_nil))) (pa_cons (pe_op op_rep (pe_lst (pa_cons (pe_int) pa_nil)) (pe_int)) (pa_cons (pe_op op_pow (pe_int) (pe_int)) pa_nil)))))))))))))))))))))))
    (pss_one (ps_ret (pe_ix (show IxR _ (rIxL K) from ix_list) (pe_cc c__law_mixed hr (by first | decide | exact Nat.le_refl _) rfl (pa_cons (pv 0) (pa_cons (pe_op op_cat (pv 2) (pe_lst (pa_cons (pe_op op_cat (pv 1) (pe_lst (pa_cons (pe_int) pa_nil))) (pa_cons (pe_op op_cat (pv 1) (pe_lst (pa_cons (pe_int) pa_nil))) (pa_cons (pe_op op_cat (pv 1) (pe_lst (pa_cons (pe_non) pa_nil))) (pa_cons (pe_lc rfl sc.nd (own := [("x", 3)]) (show PI _ _ _ (iList K _) from pi_list (pv 1)) (blkOk_by (N := ["box", "generators", "found", "x"]) (sc := defScope s_law_no_generators) (by decide +kernel)) (fun _ _ _ _ _ => (pg_name (i := 3) sc.nd rfl (.inl rfl))) (fun _ _ _ _ _ => pts_nil) (fun _ _ _ _ _ => (pe_op op_mul (pe_int) (pv 3)))) pa_nil)))))) pa_nil))) (pe_int) (fun _ _ => rfl))))), ?_⟩
  have W0 := Le.refl w
  have B : BadL K w.k [] := fun v hv => absurd hv (by simp)
  have B := B.add (show Bad K _ (.non) from ⟨.none, .non, by decide +kernel, by decide +kernel, by decide +kernel⟩)
  have B := B.add (show Bad K _ (.int 7) from ⟨.int 7, .int 7, by decide +kernel, by decide +kernel, by decide +kernel⟩)
  have B := B.add (show Bad K _ (.str "2 3") from ⟨.str "2 3", .str "2 3", by decide +kernel, by decide +kernel, by decide +kernel⟩)
  walk_at "st"
  refine dnew_k fun p1 u1 l1 c1 _ h1 => ?_
  have B := B.le l1
  have W1 := W0.trans l1
  have B := B.add (show Bad K u1.k (.ref p1) from ⟨.dict [], .dic h1 List.nodup_nil .nil, by decide +kernel, by decide +kernel, by decide +kernel⟩)
  walk_at "st"
  refine lst_k (by show 0 ≤ 1000000; decide) fun p2 u2 l2 c2 _ h2 => ?_
  have B := B.le l2
  have W2 := W1.trans l2
  have B := B.add (show Bad K u2.k (.ref p2) from ⟨.list [], .lst h2 .nil, by decide +kernel, by decide +kernel, by decide +kernel⟩)
  walk_at "st"
  refine tup_k (by show 0 ≤ 1000000; decide) fun p3 u3 l3 c3 _ h3 => ?_
  have B := B.le l3
  have W3 := W2.trans l3
  have B := B.add (show Bad K u3.k (.ref p3) from ⟨.tuple [], .tup h3 .nil, by decide +kernel, by decide +kernel, by decide +kernel⟩)
  walk_at "st"
  refine lst_k (by show 1 ≤ 1000000; decide) fun p4 u4 l4 c4 _ h4 => ?_
  have B := B.le l4
  have W4 := W3.trans l4
  have B := B.add (show Bad K u4.k (.ref p4) from ⟨.list [.int (0)], .lst h4 (.cons (.int (0)) .nil), by decide +kernel, by decide +kernel, by decide +kernel⟩)
  walk_at "st"
  refine lst_k (by show 2 ≤ 1000000; decide) fun p5 u5 l5 c5 _ h5 => ?_
  have B := B.le l5
  have W5 := W4.trans l5
  have B := B.add (show Bad K u5.k (.ref p5) from ⟨.list [.int (2), .int (4)], .lst h5 (.cons (.int (2)) (.cons (.int (4)) .nil)), by decide +kernel, by decide +kernel, by decide +kernel⟩)
  walk_at "st"
  refine lst_k (by show 3 ≤ 1000000; decide) fun p6 u6 l6 c6 _ h6 => ?_
  have B := B.le l6
  have W6 := W5.trans l6
  have B := B.add (show Bad K u6.k (.ref p6) from ⟨.list [.int (6), .int (10), .int (14)], .lst h6 (.cons (.int (6)) (.cons (.int (10)) (.cons (.int (14)) .nil))), by decide +kernel, by decide +kernel, by decide +kernel⟩)
  walk_at "st"
  refine lst_k (by show 1 ≤ 1000000; decide) fun p7 u7 l7 c7 _ h7 => ?_
  have B := B.le l7
  have W7 := W6.trans l7
  have B := B.add (show Bad K u7.k (.ref p7) from ⟨.list [.int (201)], .lst h7 (.cons (.int (201)) .nil), by decide +kernel, by decide +kernel, by decide +kernel⟩)
  walk_at "st"
  refine lst_k (by show 2 ≤ 1000000; decide) fun p8 u8 l8 c8 _ h8 => ?_
  have B := B.le l8
  have W8 := W7.trans l8
  have B := B.add (show Bad K u8.k (.ref p8) from ⟨.list [.int (2), .int (201)], .lst h8 (.cons (.int (2)) (.cons (.int (201)) .nil)), by decide +kernel, by decide +kernel, by decide +kernel⟩)
  walk_at "st"
  refine lst_k (by show 2 ≤ 1000000; decide) fun p9 u9 l9 c9 _ h9 => ?_
  have B := B.le l9
  have W9 := W8.trans l9
  have B := B.add (show Bad K u9.k (.ref p9) from ⟨.list [.int (3), .int (0)], .lst h9 (.cons (.int (3)) (.cons (.int (0)) .nil)), by decide +kernel, by decide +kernel, by decide +kernel⟩)
  walk_at "st"
  refine lst_k (by show 2 ≤ 1000000; decide) fun p10 u10 l10 c10 _ h10 => ?_
  have B := B.le l10
  have W10 := W9.trans l10
  have B := B.add (show Bad K u10.k (.ref p10) from ⟨.list [.int (3), .int (-2)], .lst h10 (.cons (.int (3)) (.cons (.int (-2)) .nil)), by decide +kernel, by decide +kernel, by decide +kernel⟩)
  walk_at "st"
  refine lst_k (by show 1 ≤ 1000000; decide) fun p11 u11 l11 c11 _ h11 => ?_
  have B := B.le l11
  have W11 := W10.trans l11
  have B := B.add (show Bad K u11.k (.ref p11) from ⟨.list [.bool true], .lst h11 (.cons (.bl true) .nil), by decide +kernel, by decide +kernel, by decide +kernel⟩)
  walk_at "st"
  refine lst_k (by show 2 ≤ 1000000; decide) fun p12 u12 l12 c12 _ h12 => ?_
  have B := B.le l12
  have W12 := W11.trans l12
  have B := B.add (show Bad K u12.k (.ref p12) from ⟨.list [.int (3), .bool true], .lst h12 (.cons (.int (3)) (.cons (.bl true) .nil)), by decide +kernel, by decide +kernel, by decide +kernel⟩)
  walk_at "st"
  refine lst_k (by show 2 ≤ 1000000; decide) fun p13 u13 l13 c13 _ h13 => ?_
  have B := B.le l13
  have W13 := W12.trans l13
  have B := B.add (show Bad K u13.k (.ref p13) from ⟨.list [.int (3), .str "2"], .lst h13 (.cons (.int (3)) (.cons (.str "2") .nil)), by decide +kernel, by decide +kernel, by decide +kernel⟩)
  walk_at "st"
  refine lst_k (by show 2 ≤ 1000000; decide) fun p14 u14 l14 c14 _ h14 => ?_
  have B := B.le l14
  have W14 := W13.trans l14
  have B := B.add (show Bad K u14.k (.ref p14) from ⟨.list [.int (3), .none], .lst h14 (.cons (.int (3)) (.cons (.non) .nil)), by decide +kernel, by decide +kernel, by decide +kernel⟩)
  walk_at "st"
  refine lst_k (by show 1 ≤ 1000000; decide) fun p15 u15 l15 c15 _ h15 => ?_
  have B := B.le l15
  have W15 := W14.trans l15
  walk_at "st"
  refine lst_k (by show 2 ≤ 1000000; decide) fun p16 u16 l16 c16 _ h16 => ?_
  have B := B.le l16
  have W16 := W15.trans l16
  have B := B.add (show Bad K u16.k (.ref p16) from ⟨.list [.list [.int 2], .int 3], .lst h16 (.cons (.lst (l16.k _ _ h15) (.cons (.int 2) .nil)) (.cons (.int 3) .nil)), by decide +kernel, by decide +kernel, by decide +kernel⟩)
  walk_at "st"
  refine tup_k (by show 1 ≤ 1000000; decide) fun p17 u17 l17 c17 _ h17 => ?_
  have B := B.le l17
  have W17 := W16.trans l17
  walk_at "st"
  refine lst_k (by show 2 ≤ 1000000; decide) fun p18 u18 l18 c18 _ h18 => ?_
  have B := B.le l18
  have W18 := W17.trans l18
  have B := B.add (show Bad K u18.k (.ref p18) from ⟨.list [.int 3, .tuple [.int 2]], .lst h18 (.cons (.int 3) (.cons (.tup (l18.k _ _ h17) (.cons (.int 2) .nil)) .nil)), by decide +kernel, by decide +kernel, by decide +kernel⟩)
  walk_at "st"
  refine lst_k (by show 1 ≤ 1000000; decide) fun p19 u19 l19 c19 _ h19 => ?_
  have B := B.le l19
  have W19 := W18.trans l19
  walk_at "st"
  refine rep1_k (u19.ext _ _ h19) (by decide) (by decide) fun p20 u20 l20 c20 _ h20 => ?_
  have B := B.le l20
  have W20 := W19.trans l20
  have B := B.add (show Bad K u20.k (.ref p20) from ⟨.list (List.replicate 201 (.int 1)), .lst h20 (by have := Dats.ints (K := K) (H := u20.k) (List.replicate 201 1); rwa [List.map_replicate, List.map_replicate] at this), by decide +kernel, by decide +kernel, by decide +kernel⟩)
  walk_at "st"
  refine x_I ⟨by decide, by decide, by decide⟩ ?_
  have B := B.add (show Bad K _ (.int (10 ^ (20 : Int).toNat)) from ⟨.int (10 ^ (20 : Int).toNat), .int _, by decide +kernel, by decide +kernel, by decide +kernel⟩)
  walk_at "st"
  refine lst_k (by show 21 ≤ 1000000; decide) fun pf u21 l21 c21 _ hf => ?_
  have B := B.le l21
  have W21 := W20.trans l21
  walk_at "st"
  refine lst_k (by show 1 ≤ 1000000; decide) fun p22 u22 l22 c22 _ h22 => ?_
  have B := B.le l22
  have W22 := W21.trans l22
  walk_at "st"
  refine cat_k (u22.ext _ _ (W22.k _ _ ha)) (u22.ext _ _ h22) (by rw [List.length_map, List.length_singleton]; omega) fun p23 u23 l23 c23 _ h23 => ?_
  have B := B.le l23
  have W23 := W22.trans l23
  have B := B.add (show Bad K u23.k (.ref p23) from bad_app (d := .int 0) h23 (by omega) (.int 0) (by decide +kernel) (by decide +kernel) (by decide +kernel))
  walk_at "st"
  refine lst_k (by show 1 ≤ 1000000; decide) fun p24 u24 l24 c24 _ h24 => ?_
  have B := B.le l24
  have W24 := W23.trans l24
  walk_at "st"
  refine cat_k (u24.ext _ _ (W24.k _ _ ha)) (u24.ext _ _ h24) (by rw [List.length_map, List.length_singleton]; omega) fun p25 u25 l25 c25 _ h25 => ?_
  have B := B.le l25
  have W25 := W24.trans l25
  have B := B.add (show Bad K u25.k (.ref p25) from bad_app (d := .int 201) h25 (by omega) (.int 201) (by decide +kernel) (by decide +kernel) (by decide +kernel))
  walk_at "st"
  refine lst_k (by show 1 ≤ 1000000; decide) fun p26 u26 l26 c26 _ h26 => ?_
  have B := B.le l26
  have W26 := W25.trans l26
  walk_at "st"
  refine cat_k (u26.ext _ _ (W26.k _ _ ha)) (u26.ext _ _ h26) (by rw [List.length_map, List.length_singleton]; omega) fun p27 u27 l27 c27 _ h27 => ?_
  have B := B.le l27
  have W27 := W26.trans l27
  have B := B.add (show Bad K u27.k (.ref p27) from bad_app (d := .none) h27 (by omega) (.non) (by decide +kernel) (by decide +kernel) (by decide +kernel))
  walk_at "st"
  refine lc_lst (.inl (.inl (W27.k _ _ ha))) (lc_map (fun _ => true) (fun i => .int (2 * ns.getD i 0)) (by rw [List.length_map]; omega) (fun i x u hi hx lu cu Qy Qn qy qn => ?_) (fun pd u lu cu npd hpd kpd => ?_))
  · obtain ⟨y, hy, rfl⟩ := c_are_generators.map_get hx
    have ey : ns.getD i 0 = y := by rw [List.getD_eq_getElem?_getD, hy]; rfl
    rw [ey] at qy
    refine x_gn ⟨rfl, x_yes ?_⟩
    walk_at "st"
    refine x_I (.inl ⟨by decide, by decide⟩) ?_
    exact qy rfl u (Le.refl _) rfl
  have eg := given_list ns (fun _ => true) (fun y => V.int (2 * y)) (fun _ => true) (fun i => .int (2 * ns.getD i 0)) (fun _ _ _ => rfl) (fun j x hx _ => by rw [List.getD_eq_getElem?_getD, hx]; rfl)
  rw [List.length_map, eg, List.filter_eq_self.mpr (fun _ _ => rfl), show ns.map (fun y => V.int (2 * y)) = (ns.map fun y => 2 * y).map V.int by rw [List.map_map]; rfl] at hpd
  obtain ⟨z, zh, zk⟩ := frz_w (w1 := u27) lu npd hpd kpd (Le.refl _)
  rw [← zh.1]
  have B := B.le zh.2.1
  have B := B.add (show Bad K z.k (.ref pd) from bad_ints zk (by rw [List.length_map]; omega) fun G2 => G2.one 2 (by decide) fun x hx => by
    obtain ⟨y, _, rfl⟩ := List.mem_map.mp hx
    exact ⟨y, rfl⟩)
  have WZ := W27.trans zh.2.1
  walk_at "st"
  refine lst_k (by show 4 ≤ 1000000; decide) fun pe ue le ce _ he => ?_
  have B := B.le le
  have WE := WZ.trans le
  have hf2 := ue.ext _ _ ((l22.trans (l23.trans (l24.trans (l25.trans (l26.trans (l27.trans (zh.2.1.trans le))))))).k _ _ hf)
  refine cat_k hf2 (ue.ext _ _ he) (by show 21 + 4 ≤ 1000000; decide) fun pg ug lg cg _ hg => ?_
  have B := B.le lg
  have WG := WE.trans lg
  walk_at "st"
  have hcg : ug.c ≤ w.c := by
    have e1 := zh.2.2
    omega
  obtain ⟨xs, hxs, hxl, hB⟩ : ∃ xs, ug.k pg = some (.lst xs) ∧ xs.length = 25 ∧ BadL K ug.k xs := ⟨_, hg, rfl, B.rev rfl⟩
  clear B hg
  refine ⟨(b, pg, xs), ug, rfl, by show ug.c + xs.length ≤ MAXC; omega, ⟨rfl, WG.b.trans hb, .inl (.inl (.inl hxs)), by show xs.length ≤ 1000; omega⟩, ?_⟩
  rintro r u lu2 cu2 ⟨pm, ys, rfl, nm, hm, km, perm⟩
  have cu2 : u.c ≤ ug.c + xs.length := cu2
  have yl : ys.length = xs.length := perm.length_eq
  have y0 : ys[0]? = some ys[0] := List.getElem?_eq_getElem (by omega)
  walk_at "st"
  refine ix_l (.inl (.inl hm)) (at_i (by decide) y0) ?_
  have B := hB.le lu2
  exact q _ u (WG.trans lu2) (by omega) (B _ (perm.mem_iff.mp (List.getElem_mem _)))
end

end Sb
set_option Elab.async false
set_option linter.all false
set_option maxRecDepth 100000
set_option maxHeartbeats 4000000
namespace Sb
open PySem PySem.Spec PyProof.Rows L2
open C8 (fnScope_by)
local macro_rules | `(tactic| walk_at "st") => `(tactic| repeat (first
  | ((with_reducible refine' x_var ?hvar ?_); (case hvar => rfl)) | with_reducible refine x_c ?_ | with_reducible refine x_op ?_ | with_reducible refine x_un ?_ | with_reducible refine x_test ?_ | with_reducible refine x_tb ?_
  | with_reducible refine x_and ?_ | with_reducible refine x_or ?_ | with_reducible refine x_not ?_ | with_reducible refine x_andV ?_ | with_reducible refine x_orV ?_ | with_reducible refine x_notV ?_ | with_reducible refine x_if ?_
  | with_reducible refine x_nil ?_ | with_reducible refine x_cons ?_ | with_reducible refine x_cb ?_ | with_reducible refine x_call ?_ | with_reducible refine x_callS ?_ | with_reducible refine x_callKS ?_ | with_reducible refine x_chain ?_ | with_reducible refine x_sl ?_
  | with_reducible refine x_part ?_ | with_reducible refine x_nopart ?_ | with_reducible refine x_seq ?_ | with_reducible refine x_asg ?_ | with_reducible refine x_gn ?_ | with_reducible refine x_gsub ?_ | with_reducible refine x_par ?_ | with_reducible refine x_par3 ?_
  | with_reducible refine x_ret ?_ | with_reducible refine x_drop ?_ | with_reducible refine x_ifS ?_ | with_reducible refine x_next ?_ | with_reducible refine x_I0 ?_ | with_reducible refine x_U ?_ | with_reducible refine x_eqI ?_
  | with_reducible refine x_eqS ?_ | with_reducible refine x_bm ?_ | with_reducible refine x_tup ?_ | with_reducible refine x_lst ?_ | with_reducible refine x_lstRg ?_ | with_reducible refine x_rg1 ?_ | with_reducible refine x_rg2 ?_
  | with_reducible refine x_forL ?_ | with_reducible refine x_forS ?_ | with_reducible refine x_forT ?_ | with_reducible refine x_forR1 ?_ | with_reducible refine x_forR2 ?_ | with_reducible refine x_lcL ?_ | with_reducible refine x_lcS ?_ | with_reducible refine x_lcR1 ?_ | with_reducible refine x_lcR2 ?_
  | with_reducible refine x_yes ?_ | with_reducible refine x_mkO ?_ | with_reducible refine x_dget ?_ | with_reducible refine x_din ?_ | with_reducible refine x_dnotin ?_ | with_reducible refine x_dput ?_ | with_reducible refine x_forR3 ?_ | with_reducible refine x_lcR3 ?_ | with_reducible refine x_lcD ?_ | with_reducible refine x_lc2R ?_
  | with_reducible refine iteF ?_ | with_reducible refine iteT ?_ | with_reducible refine iteNF ?_ | with_reducible refine iteNT ?_ | with_reducible refine ⟨_, rfl, ?_⟩ | with_reducible refine ⟨_, _, rfl, ?_⟩ | with_reducible refine ⟨_, _, rfl, rfl, ?_⟩))

/-! ### what is asked, and how it is told -/
inductive W6 | contains | minimal | gaps | genus | frobenius | conductor
def W6.str : W6 → Str
  | .contains => "contains"
  | .minimal => "minimal"
  | .gaps => "gaps"
  | .genus => "genus"
  | .frobenius => "frobenius"
  | .conductor => "conductor"
def toldR (k : W6) (ns : List Int) (dx : PyData) (w : Wo) (r : V) (u : Wo) : Prop := match k with
  | .contains => ∃ x, dx = .int x ∧ 0 ≤ x ∧ ∃ m f, Apy ns m f ∧ r = .bl (decide (f (x % m) ≤ x))
  | .minimal => RMin ns w r u
  | .gaps => RGap ns w r u
  | .genus => RGen ns w r u
  | .frobenius => RFro ns w r u
  | .conductor => RCon ns w r u
theorem toldR_le {k : W6} {ns : List Int} {dx : PyData} {w w' : Wo} {r : V} {u u' : Wo} (h : toldR k ns dx w r u) (l : Le w' w) (m : Le u u') : toldR k ns dx w' r u' := by
  cases k with
  | contains => exact h
  | minimal =>
    obtain ⟨p, ns', e, a, hp⟩ := h
    exact ⟨p, ns', e, a, m.k _ _ hp⟩
  | gaps =>
    obtain ⟨p, gs, e, np, hp, g, z⟩ := h
    exact ⟨p, gs, e, l.fresh np, m.k _ _ hp, g, z⟩
  | genus => exact h
  | frobenius => exact h
  | conductor => exact h
/-- told, or refused -/
def ansR (k : W6) (v : V) (d : PyData) (x : V) (dx : PyData) (w : Wo) (r : V) (u : Wo) : Prop := ∃ q, r = .ref q ∧
  ((gensOK d = true ∧ (k = .contains → isCt dx = true) ∧ ∃ ns val, itemsD d = ns.map PyData.int ∧ Gn ns ∧ u.k q = some (.lst [.str "told", val]) ∧ toldR k ns dx w val u) ∨
    (gensOK d = false ∧ u.k q = some (.lst [.str "generators", v])) ∨ (gensOK d = true ∧ k = .contains ∧ isCt dx = false ∧ u.k q = some (.lst [.str "number", x])))
theorem dec_t {p : Prop} [Decidable p] {A B : Prop} (h : p) (a : A) : if decide p = true then A else B := by
  rw [decide_eq_true h]
  exact iteT a
theorem dec_f {p : Prop} [Decidable p] {A B : Prop} (h : ¬ p) (b : B) : if decide p = true then A else B := by
  rw [decide_eq_false h]
  exact iteF b
section
variable {P : Program} {w0 : World} {K : PySem.W.Frag} {mg : Str → Option Value} {base : Heap} {CG CN : Addr}
def swap2 {α : Type} : List α → List α
  | [a, b] => [b, a]
  | l => l
abbrev s_law_asked : Stmt := topS 38
theorem sc_law_asked : FnScope ["word", "generators", "number", "by_name", "e"] ["word", "generators", "number", "by_name"] (defScope s_law_asked) := fnScope_by (by decide +kernel)
theorem bi_law_asked : BindsBy "_law_asked" s_law_asked ["word", "generators", "number", "by_name"] := fun _ _ _ _ _ _ us hl => match us, hl with | [_, _, _, _], _ => rfl
theorem k_of_contains {sp : Sp} (c : Cal P w0 K mg base (L2.CX P w0) 5 "contains" ["generators", "number"] sp) (D : Df K mg "contains" s_contains) : CalK P w0 K mg base (L2.CX P w0) 5 "contains" ["number", "generators"] swap2 sp :=
  c.kw D (fun _ _ _ _ _ _ us hl => match us, hl with | [_, _], _ => rfl) (fun {vs ws} h => by
    cases h with
    | nil => exact .nil
    | cons a r => cases r with
      | nil => exact .cons a .nil
      | cons b r => cases r with
        | nil => exact .cons b (.cons a .nil)
        | cons c r => exact .cons a (.cons b (.cons c r)))
theorem k_of_minimal {sp : Sp} (c : Cal P w0 K mg base (L2.CX P w0) 5 "minimal" ["generators"] sp) (D : Df K mg "minimal" s_minimal) : CalK P w0 K mg base (L2.CX P w0) 5 "minimal" ["generators"] (fun x => x) sp :=
  c.kw D (fun _ _ _ _ _ _ us hl => match us, hl with | [_], _ => rfl) (fun h => h)
theorem k_of_gaps {sp : Sp} (c : Cal P w0 K mg base (L2.CX P w0) 5 "gaps" ["generators"] sp) (D : Df K mg "gaps" s_gaps) : CalK P w0 K mg base (L2.CX P w0) 5 "gaps" ["generators"] (fun x => x) sp :=
  c.kw D (fun _ _ _ _ _ _ us hl => match us, hl with | [_], _ => rfl) (fun h => h)
theorem k_of_genus {sp : Sp} (c : Cal P w0 K mg base (L2.CX P w0) 5 "genus" ["generators"] sp) (D : Df K mg "genus" s_genus) : CalK P w0 K mg base (L2.CX P w0) 5 "genus" ["generators"] (fun x => x) sp :=
  c.kw D (fun _ _ _ _ _ _ us hl => match us, hl with | [_], _ => rfl) (fun h => h)
theorem k_of_frobenius {sp : Sp} (c : Cal P w0 K mg base (L2.CX P w0) 5 "frobenius" ["generators"] sp) (D : Df K mg "frobenius" s_frobenius) : CalK P w0 K mg base (L2.CX P w0) 5 "frobenius" ["generators"] (fun x => x) sp :=
  c.kw D (fun _ _ _ _ _ _ us hl => match us, hl with | [_], _ => rfl) (fun h => h)
theorem k_of_conductor {sp : Sp} (c : Cal P w0 K mg base (L2.CX P w0) 5 "conductor" ["generators"] sp) (D : Df K mg "conductor" s_conductor) : CalK P w0 K mg base (L2.CX P w0) 5 "conductor" ["generators"] (fun x => x) sp :=
  c.kw D (fun _ _ _ _ _ _ us hl => match us, hl with | [_], _ => rfl) (fun h => h)
abbrev sp_law_asked (K : PySem.W.Frag) : Sp := SpG (γ := W6 × V × PyData × V × PyData × Bool) (fun _ => 0) (fun g w vs => vs = [.str g.1.str, g.2.1, g.2.2.2.1, .bl g.2.2.2.2.2] ∧ Dat K w.k g.2.1 g.2.2.1 ∧ Dat K w.k g.2.2.2.1 g.2.2.2.2.1 ∧ (gensOK g.2.2.1 = true → (itemsD g.2.2.1).length ≤ 60))
  (fun g w r u => ansR g.1 g.2.1 g.2.2.1 g.2.2.2.1 g.2.2.2.2.1 w r u)
theorem c_law_asked (D : Df K mg "_law_asked" s_law_asked) (T : Tx mg) (c_contains : Cal P w0 K mg base (L2.CX P w0) 5 "contains" ["generators", "number"] (sp_contains K CG CN)) (c_minimal : Cal P w0 K mg base (L2.CX P w0) 5 "minimal" ["generators"] (sp_api K CG RMin)) (c_gaps : Cal P w0 K mg base (L2.CX P w0) 5 "gaps" ["generators"] (sp_api K CG RGap)) (c_genus : Cal P w0 K mg base (L2.CX P w0) 5 "genus" ["generators"] (sp_api K CG RGen)) (c_frobenius : Cal P w0 K mg base (L2.CX P w0) 5 "frobenius" ["generators"] (sp_api K CG RFro)) (c_conductor : Cal P w0 K mg base (L2.CX P w0) 5 "conductor" ["generators"] (sp_api K CG RCon)) (D_contains : Df K mg "contains" s_contains) (D_minimal : Df K mg "minimal" s_minimal) (D_gaps : Df K mg "gaps" s_gaps) (D_genus : Df K mg "genus" s_genus) (D_frobenius : Df K mg "frobenius" s_frobenius) (D_conductor : Df K mg "conductor" s_conductor) (c_InvalidGenerators : XcD P w0 K mg base "InvalidGenerators" CG "given" (SpIni CG "given")) (c_InvalidNumber : XcD P w0 K mg base "InvalidNumber" CN "given" (SpIni CN "given"))
    (e_GG : PySem.W.exmOne K (.ref CG) (.ref CG) = some true) (e_NG : PySem.W.exmOne K (.ref CN) (.ref CG) = some false) (e_NN : PySem.W.exmOne K (.ref CN) (.ref CN) = some true) :
    Cal P w0 K mg base CX0 6 "_law_asked" ["word", "generators", "number", "by_name"] (sp_law_asked K) := by
  have sc := sc_law_asked
  refine D.cal sc bi_law_asked (fun g w vs h => by rw [h.1]; rfl) (fun qual f cdv A outer s E g w vs Q hr hc hp q => ?_)
  obtain ⟨k, v, d, x, dx, b⟩ := g
  dsimp only at hp hc q
  obtain ⟨rfl, hv, hx, hz⟩ := hp
  have k_contains := k_of_contains c_contains D_contains
  have k_minimal := k_of_minimal c_minimal D_minimal
  have k_gaps := k_of_gaps c_gaps D_gaps
  have k_genus := k_of_genus c_genus D_genus
  have k_frobenius := k_of_frobenius c_frobenius D_frobenius
  have k_conductor := k_of_conductor c_conductor D_conductor
  refine ⟨_, (pss_one (ps_try_manyN rfl rfl sc.nd takes0 (fun W pn xe tk _ => (pss_cons (ps_if (pt_cmpR op_eq (pv 0) (pe_str) (nomark _))
          (pss_one (ps_ret (pe_lst (pa_cons (pe_str) (pa_cons (pe_ifExp (pt_val (pv 3)) (pe_ckS k_contains hr (by decide) rfl (fun σ => passAt tk σ) (pk_cons (pv 2) (pk_cons (pv 1) pk_nil))) (pe_cS c_contains hr (by decide) rfl (fun σ => passAt tk σ) (pa_cons (pv 1) (pa_cons (pv 2) pa_nil)))) pa_nil)))))
          pss_nil)
        (pss_cons (ps_if (pt_cmpR op_eq (pv 0) (pe_str) (nomark _))
          (pss_one (ps_ret (pe_lst (pa_cons (pe_str) (pa_cons (pe_ifExp (pt_val (pv 3)) (pe_ckS k_minimal hr (by decide) rfl (fun σ => passAt tk σ) (pk_cons (pv 1) pk_nil)) (pe_cS c_minimal hr (by decide) rfl (fun σ => passAt tk σ) (pa_cons (pv 1) pa_nil))) pa_nil)))))
          pss_nil)
        (pss_cons (ps_if (pt_cmpR op_eq (pv 0) (pe_str) (nomark _))
          (pss_one (ps_ret (pe_lst (pa_cons (pe_str) (pa_cons (pe_ifExp (pt_val (pv 3)) (pe_ckS k_gaps hr (by decide) rfl (fun σ => passAt tk σ) (pk_cons (pv 1) pk_nil)) (pe_cS c_gaps hr (by decide) rfl (fun σ => passAt tk σ) (pa_cons (pv 1) pa_nil))) pa_nil)))))
          pss_nil)
        (pss_cons (ps_if (pt_cmpR op_eq (pv 0) (pe_str) (nomark _))
          (pss_one (ps_ret (pe_lst (pa_cons (pe_str) (pa_cons (pe_ifExp (pt_val (pv 3)) (pe_ckS k_genus hr (by decide) rfl (fun σ => passAt tk σ) (pk_cons (pv 1) pk_nil)) (pe_cS c_genus hr (by decide) rfl (fun σ => passAt tk σ) (pa_cons (pv 1) pa_nil))) pa_nil)))))
          pss_nil)
        (pss_cons (ps_if (pt_cmpR op_eq (pv 0) (pe_str) (nomark _))
          (pss_one (ps_ret (pe_lst (pa_cons (pe_str) (pa_cons (pe_ifExp (pt_val (pv 3)) (pe_ckS k_frobenius hr (by decide) rfl (fun σ => passAt tk σ) (pk_cons (pv 1) pk_nil)) (pe_cS c_frobenius hr (by decide) rfl (fun σ => passAt tk σ) (pa_cons (pv 1) pa_nil))) pa_nil)))))
          pss_nil)
        (pss_one (ps_ret (pe_lst (pa_cons (pe_str) (pa_cons (pe_ifExp (pt_val (pv 3)) (pe_ckS k_conductor hr (by decide) rfl (fun σ => passAt tk σ) (pk_cons (pv 1) pk_nil)) (pe_cS c_conductor hr (by decide) rfl (fun σ => passAt tk σ) (pa_cons (pv 1) pa_nil))) pa_nil)))))))))))
      (HdsN.cons (i := 4) rfl rfl ⟨rfl, by decide, .inl c_InvalidGenerators.m⟩ (fun a oe cls d pn hz hf => (pss_one (ps_ret (pe_lst (pa_cons (pe_str) (pa_cons (pe_xf c_InvalidGenerators.xf c_InvalidGenerators.fld hz hf (pv 4)) pa_nil))))))
      (HdsN.cons (i := 4) rfl rfl ⟨rfl, by decide, .inl c_InvalidNumber.m⟩ (fun a oe cls d pn hz hf => (pss_one (ps_ret (pe_lst (pa_cons (pe_str) (pa_cons (pe_xf c_InvalidNumber.xf c_InvalidNumber.fld hz hf (pv 4)) pa_nil))))))
      HdsN.nil)))), ?_⟩
  have fG : ∀ (u : Wo) (dd a : Addr) (D : Ends) (v' : V), Le w u → u.c ≤ w.c + 0 → u.k dd = some (.xd [(("given" : Str), v')]) → (∀ p u2, Le u u2 → u2.c ≤ u.c → u2.k p = some (.lst [.str "generators", v']) → D.rt (.ref p) u2.h) →
      tRet (tLst (tCons (tC (.str "generators")) (tCons (tXf a (.ref CG) (some dd) CG "given" (tVar 4)) tNil))) D [some (.str k.str), some v, some x, some (.bl b), some (.ref a)] u.h := fun u dd a D v' lu cu hk kk => by
    walk_at "st"
    refine ⟨.ref a, rfl, rfl, rfl, dd, _, v', rfl, u.ext _ _ hk, by simp [List.lookup], ?_⟩
    walk_at "st"
    exact lst_k (by show 2 ≤ 1000000; decide) fun p u2 l2 c2 _ h2 => kk p u2 l2 (by omega) h2
  have fN : ∀ (u : Wo) (dd a : Addr) (D : Ends) (v' : V), Le w u → u.c ≤ w.c + 0 → u.k dd = some (.xd [(("given" : Str), v')]) → (∀ p u2, Le u u2 → u2.c ≤ u.c → u2.k p = some (.lst [.str "number", v']) → D.rt (.ref p) u2.h) →
      tRet (tLst (tCons (tC (.str "number")) (tCons (tXf a (.ref CN) (some dd) CN "given" (tVar 4)) tNil))) D [some (.str k.str), some v, some x, some (.bl b), some (.ref a)] u.h := fun u dd a D v' lu cu hk kk => by
    walk_at "st"
    refine ⟨.ref a, rfl, rfl, rfl, dd, _, v', rfl, u.ext _ _ hk, by simp [List.lookup], ?_⟩
    walk_at "st"
    exact lst_k (by show 2 ≤ 1000000; decide) fun p u2 l2 c2 _ h2 => kk p u2 l2 (by omega) h2
  walk_at "st"
  cases k with
  | contains =>
    refine dec_t rfl ?_
    walk_at "st"
    cases b with
    | true =>
      walk_at "st"
      refine ⟨(v, d, x, dx), w, rfl, hc, ⟨rfl, hv, hx⟩, fun r u lu cu post => ?_, fun cls dd fs u lu cu xp hk => ?_⟩
      · have cu : u.c ≤ w.c + 0 := cu
        obtain ⟨e, ns, n, hns, G, hn, n0, m, fn, A, hr2⟩ := post
        have hn : dx = .int n := hn
        subst hn
        walk_at "st"
        refine lst_k (by show 2 ≤ 1000000; decide) fun p u2 l2 c2 _ h2 => ?_
        exact q _ u2 (lu.trans l2) (by omega) ⟨p, rfl, .inl ⟨e, fun _ => decide_eq_true n0, ns, r, hns, G, h2, n, rfl, n0, m, fn, A, hr2⟩⟩
      · have cu : u.c ≤ w.c + 0 := cu
        rcases xp with ⟨e, rfl, rfl⟩ | ⟨e, ec, rfl, rfl⟩
        · exact ⟨true, e_GG, fun _ a na => fG u dd a _ v lu cu hk fun p u2 l2 c2 h2 => q _ u2 (lu.trans l2) (by omega) ⟨p, rfl, .inr (.inl ⟨e, h2⟩)⟩, (fun z => by cases z)⟩
        · refine ⟨false, e_NG, (fun z => by cases z), fun _ => ⟨true, e_NN, fun _ a na => ?_, (fun z => by cases z)⟩⟩
          exact fN u dd a _ x lu cu hk fun p u2 l2 c2 h2 => q _ u2 (lu.trans l2) (by omega) ⟨p, rfl, .inr (.inr ⟨e, rfl, ec, h2⟩)⟩
    | false =>
      walk_at "st"
      refine ⟨(v, d, x, dx), w, rfl, hc, ⟨rfl, hv, hx⟩, fun r u lu cu post => ?_, fun cls dd fs u lu cu xp hk => ?_⟩
      · have cu : u.c ≤ w.c + 0 := cu
        obtain ⟨e, ns, n, hns, G, hn, n0, m, fn, A, hr2⟩ := post
        have hn : dx = .int n := hn
        subst hn
        walk_at "st"
        refine lst_k (by show 2 ≤ 1000000; decide) fun p u2 l2 c2 _ h2 => ?_
        exact q _ u2 (lu.trans l2) (by omega) ⟨p, rfl, .inl ⟨e, fun _ => decide_eq_true n0, ns, r, hns, G, h2, n, rfl, n0, m, fn, A, hr2⟩⟩
      · have cu : u.c ≤ w.c + 0 := cu
        rcases xp with ⟨e, rfl, rfl⟩ | ⟨e, ec, rfl, rfl⟩
        · exact ⟨true, e_GG, fun _ a na => fG u dd a _ v lu cu hk fun p u2 l2 c2 h2 => q _ u2 (lu.trans l2) (by omega) ⟨p, rfl, .inr (.inl ⟨e, h2⟩)⟩, (fun z => by cases z)⟩
        · refine ⟨false, e_NG, (fun z => by cases z), fun _ => ⟨true, e_NN, fun _ a na => ?_, (fun z => by cases z)⟩⟩
          exact fN u dd a _ x lu cu hk fun p u2 l2 c2 h2 => q _ u2 (lu.trans l2) (by omega) ⟨p, rfl, .inr (.inr ⟨e, rfl, ec, h2⟩)⟩
  | minimal =>
    refine dec_f (by decide +kernel) ?_
    walk_at "st"
    refine dec_t rfl ?_
    walk_at "st"
    cases b with
    | true =>
      walk_at "st"
      refine ⟨(v, d), w, rfl, hc, ⟨rfl, hv, hz⟩, fun r u lu cu post => ?_, fun cls dd fs u lu cu xp hk => ?_⟩
      · have cu : u.c ≤ w.c + 0 := cu
        obtain ⟨e, ns, hns, G, R⟩ := post
        walk_at "st"
        refine lst_k (by show 2 ≤ 1000000; decide) fun p u2 l2 c2 _ h2 => ?_
        exact q _ u2 (lu.trans l2) (by omega) ⟨p, rfl, .inl ⟨e, (fun z => by cases z), ns, r, hns, G, h2, toldR_le (k := .minimal) (dx := dx) R (Le.refl _) l2⟩⟩
      · have cu : u.c ≤ w.c + 0 := cu
        obtain ⟨e, rfl, rfl⟩ := xp
        exact ⟨true, e_GG, fun _ a na => fG u dd a _ v lu cu hk fun p u2 l2 c2 h2 => q _ u2 (lu.trans l2) (by omega) ⟨p, rfl, .inr (.inl ⟨e, h2⟩)⟩, (fun z => by cases z)⟩
    | false =>
      walk_at "st"
      refine ⟨(v, d), w, rfl, hc, ⟨rfl, hv, hz⟩, fun r u lu cu post => ?_, fun cls dd fs u lu cu xp hk => ?_⟩
      · have cu : u.c ≤ w.c + 0 := cu
        obtain ⟨e, ns, hns, G, R⟩ := post
        walk_at "st"
        refine lst_k (by show 2 ≤ 1000000; decide) fun p u2 l2 c2 _ h2 => ?_
        exact q _ u2 (lu.trans l2) (by omega) ⟨p, rfl, .inl ⟨e, (fun z => by cases z), ns, r, hns, G, h2, toldR_le (k := .minimal) (dx := dx) R (Le.refl _) l2⟩⟩
      · have cu : u.c ≤ w.c + 0 := cu
        obtain ⟨e, rfl, rfl⟩ := xp
        exact ⟨true, e_GG, fun _ a na => fG u dd a _ v lu cu hk fun p u2 l2 c2 h2 => q _ u2 (lu.trans l2) (by omega) ⟨p, rfl, .inr (.inl ⟨e, h2⟩)⟩, (fun z => by cases z)⟩
  | gaps =>
    refine dec_f (by decide +kernel) ?_
    walk_at "st"
    refine dec_f (by decide +kernel) ?_
    walk_at "st"
    refine dec_t rfl ?_
    walk_at "st"
    cases b with
    | true =>
      walk_at "st"
      refine ⟨(v, d), w, rfl, hc, ⟨rfl, hv, hz⟩, fun r u lu cu post => ?_, fun cls dd fs u lu cu xp hk => ?_⟩
      · have cu : u.c ≤ w.c + 0 := cu
        obtain ⟨e, ns, hns, G, R⟩ := post
        walk_at "st"
        refine lst_k (by show 2 ≤ 1000000; decide) fun p u2 l2 c2 _ h2 => ?_
        exact q _ u2 (lu.trans l2) (by omega) ⟨p, rfl, .inl ⟨e, (fun z => by cases z), ns, r, hns, G, h2, toldR_le (k := .gaps) (dx := dx) R (Le.refl _) l2⟩⟩
      · have cu : u.c ≤ w.c + 0 := cu
        obtain ⟨e, rfl, rfl⟩ := xp
        exact ⟨true, e_GG, fun _ a na => fG u dd a _ v lu cu hk fun p u2 l2 c2 h2 => q _ u2 (lu.trans l2) (by omega) ⟨p, rfl, .inr (.inl ⟨e, h2⟩)⟩, (fun z => by cases z)⟩
    | false =>
      walk_at "st"
      refine ⟨(v, d), w, rfl, hc, ⟨rfl, hv, hz⟩, fun r u lu cu post => ?_, fun cls dd fs u lu cu xp hk => ?_⟩
      · have cu : u.c ≤ w.c + 0 := cu
        obtain ⟨e, ns, hns, G, R⟩ := post
        walk_at "st"
        refine lst_k (by show 2 ≤ 1000000; decide) fun p u2 l2 c2 _ h2 => ?_
        exact q _ u2 (lu.trans l2) (by omega) ⟨p, rfl, .inl ⟨e, (fun z => by cases z), ns, r, hns, G, h2, toldR_le (k := .gaps) (dx := dx) R (Le.refl _) l2⟩⟩
      · have cu : u.c ≤ w.c + 0 := cu
        obtain ⟨e, rfl, rfl⟩ := xp
        exact ⟨true, e_GG, fun _ a na => fG u dd a _ v lu cu hk fun p u2 l2 c2 h2 => q _ u2 (lu.trans l2) (by omega) ⟨p, rfl, .inr (.inl ⟨e, h2⟩)⟩, (fun z => by cases z)⟩
  | genus =>
    refine dec_f (by decide +kernel) ?_
    walk_at "st"
    refine dec_f (by decide +kernel) ?_
    walk_at "st"
    refine dec_f (by decide +kernel) ?_
    walk_at "st"
    refine dec_t rfl ?_
    walk_at "st"
    cases b with
    | true =>
      walk_at "st"
      refine ⟨(v, d), w, rfl, hc, ⟨rfl, hv, hz⟩, fun r u lu cu post => ?_, fun cls dd fs u lu cu xp hk => ?_⟩
      · have cu : u.c ≤ w.c + 0 := cu
        obtain ⟨e, ns, hns, G, R⟩ := post
        walk_at "st"
        refine lst_k (by show 2 ≤ 1000000; decide) fun p u2 l2 c2 _ h2 => ?_
        exact q _ u2 (lu.trans l2) (by omega) ⟨p, rfl, .inl ⟨e, (fun z => by cases z), ns, r, hns, G, h2, toldR_le (k := .genus) (dx := dx) R (Le.refl _) l2⟩⟩
      · have cu : u.c ≤ w.c + 0 := cu
        obtain ⟨e, rfl, rfl⟩ := xp
        exact ⟨true, e_GG, fun _ a na => fG u dd a _ v lu cu hk fun p u2 l2 c2 h2 => q _ u2 (lu.trans l2) (by omega) ⟨p, rfl, .inr (.inl ⟨e, h2⟩)⟩, (fun z => by cases z)⟩
    | false =>
      walk_at "st"
      refine ⟨(v, d), w, rfl, hc, ⟨rfl, hv, hz⟩, fun r u lu cu post => ?_, fun cls dd fs u lu cu xp hk => ?_⟩
      · have cu : u.c ≤ w.c + 0 := cu
        obtain ⟨e, ns, hns, G, R⟩ := post
        walk_at "st"
        refine lst_k (by show 2 ≤ 1000000; decide) fun p u2 l2 c2 _ h2 => ?_
        exact q _ u2 (lu.trans l2) (by omega) ⟨p, rfl, .inl ⟨e, (fun z => by cases z), ns, r, hns, G, h2, toldR_le (k := .genus) (dx := dx) R (Le.refl _) l2⟩⟩
      · have cu : u.c ≤ w.c + 0 := cu
        obtain ⟨e, rfl, rfl⟩ := xp
        exact ⟨true, e_GG, fun _ a na => fG u dd a _ v lu cu hk fun p u2 l2 c2 h2 => q _ u2 (lu.trans l2) (by omega) ⟨p, rfl, .inr (.inl ⟨e, h2⟩)⟩, (fun z => by cases z)⟩
  | frobenius =>
    refine dec_f (by decide +kernel) ?_
    walk_at "st"
    refine dec_f (by decide +kernel) ?_
    walk_at "st"
    refine dec_f (by decide +kernel) ?_
    walk_at "st"
    refine dec_f (by decide +kernel) ?_
    walk_at "st"
    refine dec_t rfl ?_
    walk_at "st"
    cases b with
    | true =>
      walk_at "st"
      refine ⟨(v, d), w, rfl, hc, ⟨rfl, hv, hz⟩, fun r u lu cu post => ?_, fun cls dd fs u lu cu xp hk => ?_⟩
      · have cu : u.c ≤ w.c + 0 := cu
        obtain ⟨e, ns, hns, G, R⟩ := post
        walk_at "st"
        refine lst_k (by show 2 ≤ 1000000; decide) fun p u2 l2 c2 _ h2 => ?_
        exact q _ u2 (lu.trans l2) (by omega) ⟨p, rfl, .inl ⟨e, (fun z => by cases z), ns, r, hns, G, h2, toldR_le (k := .frobenius) (dx := dx) R (Le.refl _) l2⟩⟩
      · have cu : u.c ≤ w.c + 0 := cu
        obtain ⟨e, rfl, rfl⟩ := xp
        exact ⟨true, e_GG, fun _ a na => fG u dd a _ v lu cu hk fun p u2 l2 c2 h2 => q _ u2 (lu.trans l2) (by omega) ⟨p, rfl, .inr (.inl ⟨e, h2⟩)⟩, (fun z => by cases z)⟩
    | false =>
      walk_at "st"
      refine ⟨(v, d), w, rfl, hc, ⟨rfl, hv, hz⟩, fun r u lu cu post => ?_, fun cls dd fs u lu cu xp hk => ?_⟩
      · have cu : u.c ≤ w.c + 0 := cu
        obtain ⟨e, ns, hns, G, R⟩ := post
        walk_at "st"
        refine lst_k (by show 2 ≤ 1000000; decide) fun p u2 l2 c2 _ h2 => ?_
        exact q _ u2 (lu.trans l2) (by omega) ⟨p, rfl, .inl ⟨e, (fun z => by cases z), ns, r, hns, G, h2, toldR_le (k := .frobenius) (dx := dx) R (Le.refl _) l2⟩⟩
      · have cu : u.c ≤ w.c + 0 := cu
        obtain ⟨e, rfl, rfl⟩ := xp
        exact ⟨true, e_GG, fun _ a na => fG u dd a _ v lu cu hk fun p u2 l2 c2 h2 => q _ u2 (lu.trans l2) (by omega) ⟨p, rfl, .inr (.inl ⟨e, h2⟩)⟩, (fun z => by cases z)⟩
  | conductor =>
    refine dec_f (by decide +kernel) ?_
    walk_at "st"
    refine dec_f (by decide +kernel) ?_
    walk_at "st"
    refine dec_f (by decide +kernel) ?_
    walk_at "st"
    refine dec_f (by decide +kernel) ?_
    walk_at "st"
    refine dec_f (by decide +kernel) ?_
    walk_at "st"
    cases b with
    | true =>
      walk_at "st"
      refine ⟨(v, d), w, rfl, hc, ⟨rfl, hv, hz⟩, fun r u lu cu post => ?_, fun cls dd fs u lu cu xp hk => ?_⟩
      · have cu : u.c ≤ w.c + 0 := cu
        obtain ⟨e, ns, hns, G, R⟩ := post
        walk_at "st"
        refine lst_k (by show 2 ≤ 1000000; decide) fun p u2 l2 c2 _ h2 => ?_
        exact q _ u2 (lu.trans l2) (by omega) ⟨p, rfl, .inl ⟨e, (fun z => by cases z), ns, r, hns, G, h2, toldR_le (k := .conductor) (dx := dx) R (Le.refl _) l2⟩⟩
      · have cu : u.c ≤ w.c + 0 := cu
        obtain ⟨e, rfl, rfl⟩ := xp
        exact ⟨true, e_GG, fun _ a na => fG u dd a _ v lu cu hk fun p u2 l2 c2 h2 => q _ u2 (lu.trans l2) (by omega) ⟨p, rfl, .inr (.inl ⟨e, h2⟩)⟩, (fun z => by cases z)⟩
    | false =>
      walk_at "st"
      refine ⟨(v, d), w, rfl, hc, ⟨rfl, hv, hz⟩, fun r u lu cu post => ?_, fun cls dd fs u lu cu xp hk => ?_⟩
      · have cu : u.c ≤ w.c + 0 := cu
        obtain ⟨e, ns, hns, G, R⟩ := post
        walk_at "st"
        refine lst_k (by show 2 ≤ 1000000; decide) fun p u2 l2 c2 _ h2 => ?_
        exact q _ u2 (lu.trans l2) (by omega) ⟨p, rfl, .inl ⟨e, (fun z => by cases z), ns, r, hns, G, h2, toldR_le (k := .conductor) (dx := dx) R (Le.refl _) l2⟩⟩
      · have cu : u.c ≤ w.c + 0 := cu
        obtain ⟨e, rfl, rfl⟩ := xp
        exact ⟨true, e_GG, fun _ a na => fG u dd a _ v lu cu hk fun p u2 l2 c2 h2 => q _ u2 (lu.trans l2) (by omega) ⟨p, rfl, .inr (.inl ⟨e, h2⟩)⟩, (fun z => by cases z)⟩
end

end Sb
set_option Elab.async false
set_option linter.all false
set_option maxRecDepth 100000
set_option maxHeartbeats 4000000
namespace Sb
open PySem PySem.Spec PyProof.Rows L2
open C8 (fnScope_by)
local macro_rules | `(tactic| walk_at "st") => `(tactic| repeat (first
  | ((with_reducible refine' x_var ?hvar ?_); (case hvar => rfl)) | with_reducible refine x_c ?_ | with_reducible refine x_op ?_ | with_reducible refine x_un ?_ | with_reducible refine x_test ?_ | with_reducible refine x_tb ?_
  | with_reducible refine x_and ?_ | with_reducible refine x_or ?_ | with_reducible refine x_not ?_ | with_reducible refine x_andV ?_ | with_reducible refine x_orV ?_ | with_reducible refine x_notV ?_ | with_reducible refine x_if ?_
  | with_reducible refine x_nil ?_ | with_reducible refine x_cons ?_ | with_reducible refine x_cb ?_ | with_reducible refine x_call ?_ | with_reducible refine x_callS ?_ | with_reducible refine x_callKS ?_ | with_reducible refine x_chain ?_ | with_reducible refine x_sl ?_
  | with_reducible refine x_part ?_ | with_reducible refine x_nopart ?_ | with_reducible refine x_seq ?_ | with_reducible refine x_asg ?_ | with_reducible refine x_gn ?_ | with_reducible refine x_gsub ?_ | with_reducible refine x_par ?_ | with_reducible refine x_par3 ?_
  | with_reducible refine x_ret ?_ | with_reducible refine x_drop ?_ | with_reducible refine x_ifS ?_ | with_reducible refine x_next ?_ | with_reducible refine x_I0 ?_ | with_reducible refine x_U ?_ | with_reducible refine x_eqI ?_
  | with_reducible refine x_eqS ?_ | with_reducible refine x_bm ?_ | with_reducible refine x_tup ?_ | with_reducible refine x_lst ?_ | with_reducible refine x_lstRg ?_ | with_reducible refine x_rg1 ?_ | with_reducible refine x_rg2 ?_
  | with_reducible refine x_forL ?_ | with_reducible refine x_forS ?_ | with_reducible refine x_forT ?_ | with_reducible refine x_forR1 ?_ | with_reducible refine x_forR2 ?_ | with_reducible refine x_lcL ?_ | with_reducible refine x_lcS ?_ | with_reducible refine x_lcR1 ?_ | with_reducible refine x_lcR2 ?_
  | with_reducible refine x_yes ?_ | with_reducible refine x_mkO ?_ | with_reducible refine x_dget ?_ | with_reducible refine x_din ?_ | with_reducible refine x_dnotin ?_ | with_reducible refine x_dput ?_ | with_reducible refine x_forR3 ?_ | with_reducible refine x_lcR3 ?_ | with_reducible refine x_lcD ?_ | with_reducible refine x_lc2R ?_
  | with_reducible refine iteF ?_ | with_reducible refine iteT ?_ | with_reducible refine iteNF ?_ | with_reducible refine iteNT ?_ | with_reducible refine ⟨_, rfl, ?_⟩ | with_reducible refine ⟨_, _, rfl, ?_⟩ | with_reducible refine ⟨_, _, rfl, rfl, ?_⟩))

/-! ### numbers asked -/
section
variable {P : Program} {w0 : World} {K : PySem.W.Frag} {mg : Str → Option Value} {base : Heap}
abbrev s_law_numbers : Stmt := topS 39
theorem sc_law_numbers : FnScope ["box", "m", "least", "most", "found", "turn", "k", "x"] ["box", "m", "least", "most"] (defScope s_law_numbers) := fnScope_by (by decide +kernel)
theorem bi_law_numbers : BindsBy "_law_numbers" s_law_numbers ["box", "m", "least", "most"] := fun _ _ _ _ _ _ us hl => match us, hl with | [_, _, _, _], _ => rfl
abbrev sp_law_numbers (K : PySem.W.Frag) : Sp := SpG (γ := Addr × Int × Addr × (Int → Int) × Int) (fun _ => 30) (fun g w vs => vs = [.ref g.1, .int g.2.1, .ref g.2.2.1, .int g.2.2.2.2] ∧ w.b = some g.1 ∧ w.k g.2.2.1 = some (.lst ((tab g.2.1 g.2.2.2.1).map V.int)) ∧ 1 ≤ g.2.1 ∧ g.2.1 ≤ 200 ∧ 0 ≤ g.2.2.2.2 ∧ g.2.2.2.2 ≤ 1000000)
  (fun g w r u => ∃ (p : Addr) (xs : List Int), r = .ref p ∧ u.k p = some (.lst (xs.map V.int)) ∧ ∀ x ∈ xs, 0 ≤ x)
theorem c_law_numbers (D : Df K mg "_law_numbers" s_law_numbers) (T : Tx mg) (c__law_take : Cal P w0 K mg base CX0 1 "_law_take" ["box", "many"] sp_law_take) : Cal P w0 K mg base CX0 2 "_law_numbers" ["box", "m", "least", "most"] (sp_law_numbers K) := by
  have sc := sc_law_numbers
  refine D.cal sc bi_law_numbers (fun g w vs h => by rw [h.1]; rfl) (fun qual f cdv A outer s E g w vs Q hr hc hp q => ?_)
  obtain ⟨b, m, l, fn, mo⟩ := g
  dsimp only at hp hc q
  obtain ⟨rfl, hb, hl, m0, m1, o0, o1⟩ := hp
  refine ⟨_, (pss_cons (ps_set (i := 4) sc.nd rfl (.inl rfl) (pe_lst (pa_cons (pe_int) (pa_cons (pe_int) (pa_cons (pv 3) (pa_cons (pe_op op_add (pv 3) (pe_int)) (pa_cons (pe_callB (cr_max2 rfl) (by rfl) T.m_max boot_max (pa_cons (pe_int) (pa_cons (pe_op op_sub (pv 3) (pe_int)) pa_nil))) (pa_cons (pe_op op_add (pe_op op_pow (pe_int) (pe_int)) (pe_cc c__law_take hr (by first | decide | exact Nat.le_refl _) rfl (pa_cons (pv 0) (pa_cons (pe_int) pa_nil)))) (pa_cons (pe_op op_pow (pe_int) (pe_int)) (pa_cons (pe_callB (cr_max2 rfl) (by rfl) T.m_max boot_max (pa_cons (pe_int) (pa_cons (pe_op op_fdivN (pv 3) (pe_int)) pa_nil))) pa_nil))))))))))
    (pss_cons (ps_for PassesOwn.never rfl (pi_range1 (by rfl) T.m_range (pa_cons (pe_int) pa_nil)) (pg_name (i := 5) sc.nd rfl (.inl rfl))
      (pss_cons (ps_set (i := 6) sc.nd rfl (.inl rfl) (pe_cc c__law_take hr (by first | decide | exact Nat.le_refl _) rfl (pa_cons (pv 0) (pa_cons (pv 1) pa_nil))))
      (pss_one (ps_set (i := 4) sc.nd rfl (.inl rfl) (pe_op op_cat (pv 4) (pe_lst (pa_cons (pe_ix (show IxR _ (rIxL K) from ix_list) (pv 2) (pv 6) (fun _ _ => rfl)) (pa_cons (pe_callB (cr_max2 rfl) (by rfl) T.m_max boot_max (pa_cons (pe_int) (pa_cons (pe_op op_sub (pe_ix (show IxR _ (rIxL K) from ix_list) (pv 2) (pv 6) (fun _ _ => rfl)) (pv 1)) pa_nil))) (pa_cons (pe_op op_add (pe_ix (show IxR _ (rIxL K) from ix_list) (pv 2) (pv 6) (fun _ _ => rfl)) (pe_op op_mul (pv 1) (pe_cc c__law_take hr (by first | decide | exact Nat.le_refl _) rfl (pa_cons (pv 0) (pa_cons (pe_op op_pow (pe_int) (pe_int)) pa_nil))))) (pa_cons (pe_cc c__law_take hr (by first | decide | exact Nat.le_refl _) rfl (pa_cons (pv 0) (pa_cons (pe_callB (cr_max2 rfl) (by rfl) T.m_max boot_max (pa_cons (pe_int) (pa_cons (pe_op op_add (pv 3) (pe_int)) pa_nil))) pa_nil))) pa_nil))))))))))
    (pss_one (ps_ret (pe_lc rfl sc.nd (own := [("x", 7)]) (show PI _ _ _ (iList K _) from pi_list (pv 4)) (blkOk_by (N := ["box", "m", "least", "most", "found", "turn", "k", "x"]) (sc := defScope s_law_numbers) (by decide +kernel)) (fun _ _ _ _ _ => (pg_name (i := 7) sc.nd rfl (.inl rfl))) (fun _ _ _ _ _ => (pts_one (pt_cmpR op_ge (pv 7) (pe_int) (nomark _)))) (fun _ _ _ _ _ => (pv 7))))))), ?_⟩
  have take : ∀ (v : Wo) (m : Int) (Q : VK), Le w v → v.c + 1 ≤ w.c + 30 → 1 ≤ m → m < 1073741824 → (∀ i u, Le v u → u.c ≤ v.c + 1 → 0 ≤ i → i < m → Q (.int i) u.h) → sp_law_take [.ref b, .int m] v.h Q E0 := fun v m Q l c m0 m1 k =>
    ⟨(b, m), v, rfl, by show v.c + 1 ≤ MAXC; omega, ⟨rfl, l.b.trans hb, m0, m1⟩, fun r u lu cu ⟨i, e, i0, i1⟩ => by
      subst e
      exact k i u lu cu i0 i1⟩
  walk_at "st"
  refine max2_i ?_
  walk_at "st"
  refine x_I ⟨by decide, by decide, by decide⟩ ?_
  walk_at "st"
  refine take w 1000 _ (Le.refl _) (by omega) (by decide) (by decide) fun i w1 l1 c1 i0 i1 => ?_
  walk_at "st"
  refine x_I ⟨by decide, by decide, by decide⟩ ?_
  walk_at "st"
  refine x_I ⟨by decide, by decide⟩ ?_
  walk_at "st"
  refine max2_i ?_
  walk_at "st"
  refine lst_k (by show 8 ≤ 1000000; decide) fun p w2 l2 c2 _ h2 => ?_
  obtain ⟨xs0, hx0, hxl⟩ : ∃ xs : List Int, w2.k p = some (.lst (xs.map V.int)) ∧ xs.length = 8 := ⟨[_, _, _, _, _, _, _, _], h2, rfl⟩
  clear h2
  walk_at "st"
  refine for_r1 (by decide) (by decide) ⟨fun i σ v => ∃ (s5 s6 : Option V) (p : Addr) (xs : List Int), σ = [some (.ref b), some (.int m), some (.ref l), some (.int mo), some (.ref p), s5, s6, none] ∧ Le w v ∧ v.c ≤ w.c + 1 + 3 * i ∧ v.k p = some (.lst (xs.map V.int)) ∧ xs.length ≤ 8 + 4 * i, ⟨none, none, p, xs0, rfl, l1.trans l2, by omega, hx0, by omega⟩, fun _ _ _ _ _ => trivial, ?_, ?_⟩
  · rintro i x σ v hi rfl ⟨s5, s6, p, xs, rfl, lv, cv, hp, xl⟩
    have hi : i < 8 := hi
    walk_at "st"
    refine take v m _ lv (by omega) (by omega) (by omega) fun k u lu cu k0 k1 => ?_
    have lw := lv.trans lu
    have hat := tab_at (f := fn) k0 k1
    have hls : ∀ {u' : Wo}, Le w u' → SqL K u'.h l ((tab m fn).map V.int) := fun e => .inl (.inl (Wo.ext _ _ _ (e.k _ _ hl)))
    walk_at "st"
    refine ix_l (hls lw) hat ?_
    walk_at "st"
    refine ix_l (hls lw) hat ?_
    walk_at "st"
    refine max2_i ?_
    walk_at "st"
    refine ix_l (hls lw) hat ?_
    walk_at "st"
    refine x_I ⟨by decide, by decide, by decide⟩ ?_
    walk_at "st"
    refine take u _ _ lw (by omega) (by decide) (by decide) fun k2 u2 l2 c2 k20 k21 => ?_
    refine x_I (.inl ⟨by omega, by omega⟩) ?_
    walk_at "st"
    refine max2_i ?_
    walk_at "st"
    refine take u2 _ _ (lw.trans l2) (by omega) (by omega) (by omega) fun k3 u3 l3 c3 k30 k31 => ?_
    walk_at "st"
    refine lst_k (by show 4 ≤ 1000000; decide) fun p4 u4 l4 c4 _ h4 => ?_
    have le34 := (lu.trans l2).trans (l3.trans l4)
    refine cat_k (u4.ext _ _ (le34.k _ _ hp)) (u4.ext _ _ h4) (by rw [List.length_map]; show xs.length + 4 ≤ 1000000; omega) fun p5 u5 l5 c5 _ h5 => ?_
    walk_at "st"
    refine ⟨u5, rfl, _, _, p5, xs ++ [_, _, _, _], rfl, (lv.trans le34).trans l5, by omega, by rw [List.map_append]; exact h5, by rw [List.length_append]; show xs.length + 4 ≤ _; omega⟩
  · rintro σ v ⟨s5, s6, p, xs, rfl, lv, cv, hp, xl⟩
    have cv : v.c ≤ w.c + 1 + 3 * 8 := cv
    have xl : xs.length ≤ 8 + 4 * 8 := xl
    walk_at "st"
    refine lc_lst (.inl (.inl hp)) (lc_map (fun i => decide (0 ≤ xs.getD i 0)) (fun i => .int (xs.getD i 0)) (by rw [List.length_map]; omega) (fun i x u hi hx lu cu Qy Qn qy qn => ?_) (fun pd u lu cu npd hpd kpd => ?_))
    · obtain ⟨y, hy, rfl⟩ := c_are_generators.map_get hx
      have ey : xs.getD i 0 = y := by rw [List.getD_eq_getElem?_getD, hy]; rfl
      rw [ey] at qy qn
      refine x_gn ⟨rfl, ?_⟩
      walk_at "st"
      refine ite_b (fun e => ?_) (fun e => ?_)
      · walk_at "st"
        exact qy e u (Le.refl _) rfl
      · exact qn e u (Le.refl _) rfl
    · have eg := given_list xs (fun y => decide (0 ≤ y)) V.int (fun i => decide (0 ≤ xs.getD i 0)) (fun i => .int (xs.getD i 0)) (fun j x hx => by rw [List.getD_eq_getElem?_getD, hx]; rfl) (fun j x hx _ => by rw [List.getD_eq_getElem?_getD, hx]; rfl)
      rw [List.length_map, eg] at hpd
      obtain ⟨z, zh, zk⟩ := frz_w (w1 := v) lu npd hpd kpd (Le.refl _)
      rw [← zh.1]
      exact q _ z (lv.trans zh.2.1) (by have := zh.2.2; omega) ⟨pd, _, rfl, zk, fun x hx => of_decide_eq_true (List.mem_filter.mp hx).2⟩
end

end Sb
set_option Elab.async false
set_option linter.all false
set_option maxRecDepth 100000
set_option maxHeartbeats 4000000
namespace Sb
open PySem PySem.Spec PyProof.Rows L2
open C8 (fnScope_by)
local macro_rules | `(tactic| walk_at "st") => `(tactic| repeat (first
  | ((with_reducible refine' x_var ?hvar ?_); (case hvar => rfl)) | with_reducible refine x_c ?_ | with_reducible refine x_op ?_ | with_reducible refine x_un ?_ | with_reducible refine x_test ?_ | with_reducible refine x_tb ?_
  | with_reducible refine x_and ?_ | with_reducible refine x_or ?_ | with_reducible refine x_not ?_ | with_reducible refine x_andV ?_ | with_reducible refine x_orV ?_ | with_reducible refine x_notV ?_ | with_reducible refine x_if ?_
  | with_reducible refine x_nil ?_ | with_reducible refine x_cons ?_ | with_reducible refine x_cb ?_ | with_reducible refine x_call ?_ | with_reducible refine x_callS ?_ | with_reducible refine x_callKS ?_ | with_reducible refine x_chain ?_ | with_reducible refine x_sl ?_
  | with_reducible refine x_part ?_ | with_reducible refine x_nopart ?_ | with_reducible refine x_seq ?_ | with_reducible refine x_asg ?_ | with_reducible refine x_gn ?_ | with_reducible refine x_gsub ?_ | with_reducible refine x_par ?_ | with_reducible refine x_par3 ?_
  | with_reducible refine x_ret ?_ | with_reducible refine x_drop ?_ | with_reducible refine x_ifS ?_ | with_reducible refine x_next ?_ | with_reducible refine x_I0 ?_ | with_reducible refine x_U ?_ | with_reducible refine x_eqI ?_
  | with_reducible refine x_eqS ?_ | with_reducible refine x_bm ?_ | with_reducible refine x_tup ?_ | with_reducible refine x_lst ?_ | with_reducible refine x_lstRg ?_ | with_reducible refine x_rg1 ?_ | with_reducible refine x_rg2 ?_
  | with_reducible refine x_forL ?_ | with_reducible refine x_forS ?_ | with_reducible refine x_forT ?_ | with_reducible refine x_forR1 ?_ | with_reducible refine x_forR2 ?_ | with_reducible refine x_lcL ?_ | with_reducible refine x_lcS ?_ | with_reducible refine x_lcR1 ?_ | with_reducible refine x_lcR2 ?_
  | with_reducible refine x_yes ?_ | with_reducible refine x_mkO ?_ | with_reducible refine x_dget ?_ | with_reducible refine x_din ?_ | with_reducible refine x_dnotin ?_ | with_reducible refine x_dput ?_ | with_reducible refine x_forR3 ?_ | with_reducible refine x_lcR3 ?_ | with_reducible refine x_lcD ?_ | with_reducible refine x_lc2R ?_
  | with_reducible refine iteF ?_ | with_reducible refine iteT ?_ | with_reducible refine iteNF ?_ | with_reducible refine iteNT ?_ | with_reducible refine ⟨_, rfl, ?_⟩ | with_reducible refine ⟨_, _, rfl, ?_⟩ | with_reducible refine ⟨_, _, rfl, rfl, ?_⟩))

/-! ### refusals -/
theorem dep_list {xs : List PyData} : dep (.list xs) = depAll xs + 1 := rfl
theorem dep_tuple {xs : List PyData} : dep (.tuple xs) = depAll xs + 1 := rfl
theorem dep_int {i : Int} : dep (.int i) = 1 := rfl
theorem dep_str {i : Str} : dep (.str i) = 1 := rfl
theorem dep_bool {i : Bool} : dep (.bool i) = 1 := rfl
theorem keys_list {xs : List PyData} : noKeys (.list xs) = (decide (xs.length ≤ 1000000) && noKeysAll xs) := rfl
theorem keys_tuple {xs : List PyData} : noKeys (.tuple xs) = (decide (xs.length ≤ 1000000) && noKeysAll xs) := rfl
theorem keys_int {i : Int} : noKeys (.int i) = true := rfl
theorem keys_str {i : Str} : noKeys (.str i) = true := rfl
theorem keys_bool {i : Bool} : noKeys (.bool i) = true := rfl
theorem same_call {K : PySem.W.Frag} {v : Wo} {a b : V} {d : PyData} {Q : VK} {E : XK} {n : Nat} (hc : v.c ≤ MAXC) (ha : Dat K v.k a d) (hb : Dat K v.k b d) (hk : noKeys d = true) (hd : dep d ≤ n) (q : ∀ u, Le v u → u.c ≤ v.c + 0 → Q (.bl true) u.h) : sp_law_same K n [a, b] v.h Q E :=
  ⟨(a, b, d), v, rfl, hc, ⟨rfl, ha, hb, hk, hd⟩, fun r u l c e => by
    have e : r = .bl true := e
    subst e
    exact q u l c⟩
def Odd (K : PySem.W.Frag) (H : Hp) (v : V) : Prop := ∃ d, Dat K H v d ∧ isCt d = false ∧ noKeys d = true ∧ dep d ≤ 3
def OddL (K : PySem.W.Frag) (H : Hp) (xs : List V) : Prop := ∀ v ∈ xs, Odd K H v
theorem OddL.le {K : PySem.W.Frag} {w u : Wo} {xs : List V} (b : OddL K w.k xs) (l : Le w u) : OddL K u.k xs := fun v hv => by
  obtain ⟨d, h, r⟩ := b v hv
  exact ⟨d, h.mono l.k, r⟩
theorem OddL.add {K : PySem.W.Frag} {H : Hp} {xs : List V} {v : V} (b : OddL K H xs) (h : Odd K H v) : OddL K H (v :: xs) := fun x hx => by
  rcases List.mem_cons.mp hx with z | z
  · rw [z]; exact h
  · exact b x z
theorem OddL.rev {K : PySem.W.Frag} {H : Hp} {xs ys : List V} (b : OddL K H xs) (e : ys.reverse = xs) : OddL K H ys := fun x hx => b x (by rw [← e]; exact List.mem_reverse.mpr hx)
def six : List W6 := [.contains, .minimal, .gaps, .genus, .frobenius, .conductor]
theorem gens_yes {d : PyData} {ns : List Int} (h : isL d = true) (e : itemsD d = ns.map PyData.int) (G : Gn ns) (hl : ns.length ≤ 200) : gensOK d = true := by
  unfold gensOK
  rw [h, e, List.length_map]
  have h1 : 1 ≤ ns.length := List.length_pos_iff.mpr G.ne
  have h2 : (ns.map PyData.int).all (isW 1 200) = true := List.all_eq_true.mpr fun x hx => by
    obtain ⟨n, hn, rfl⟩ := List.mem_map.mp hx
    have := G.pos n hn
    show (decide (1 ≤ n) && decide (n ≤ 200)) = true
    rw [decide_eq_true this.1, decide_eq_true this.2]
    rfl
  have h3 : gcdD (ns.map PyData.int) = 1 := by
    have : gcdD (ns.map PyData.int) = gcdL ns := by
      unfold gcdD gcdL
      rw [List.foldl_map]
    rw [this]
    exact G.gcd
  rw [decide_eq_true h1, decide_eq_true hl, h2, decide_eq_true h3]
  rfl
section
variable {P : Program} {w0 : World} {K : PySem.W.Frag} {mg : Str → Option Value} {base : Heap}
abbrev s_law_refused_right : Stmt := topS 41
theorem sc_law_refused_right : FnScope ["box", "generators", "by_name", "bad", "odd", "word"] ["box", "generators", "by_name"] (defScope s_law_refused_right) := fnScope_by (by decide +kernel)
theorem bi_law_refused_right : BindsBy "_law_refused_right" s_law_refused_right ["box", "generators", "by_name"] := fun _ _ _ _ _ _ us hl => match us, hl with | [_, _, _], _ => rfl
abbrev sp_law_refused_right (K : PySem.W.Frag) : Sp := SpG (γ := Addr × Addr × List Int × Bool) (fun _ => 40) (fun g w vs => vs = [.ref g.1, .ref g.2.1, .bl g.2.2.2] ∧ w.b = some g.1 ∧ w.k g.2.1 = some (.lst (g.2.2.1.map V.int)) ∧ Gn g.2.2.1 ∧ g.2.2.1.length ≤ 40) (fun g w r u => r = .bl true)
theorem c_law_refused_right (D : Df K mg "_law_refused_right" s_law_refused_right) (T : Tx mg) (c__law_mixed : Cal P w0 K mg base CX0 2 "_law_mixed" ["box", "items"] (sp_law_mixed K)) (c__law_no_generators : Cal P w0 K mg base CX0 3 "_law_no_generators" ["box", "generators"] (sp_law_no_generators K))
    (c__law_asked : Cal P w0 K mg base CX0 6 "_law_asked" ["word", "generators", "number", "by_name"] (sp_law_asked K)) (c__law_same : Cal P w0 K mg base CX0 5 "_law_same" ["given", "due"] (sp_law_same K 5)) :
    Cal P w0 K mg base CX0 7 "_law_refused_right" ["box", "generators", "by_name"] (sp_law_refused_right K) := by
  have sc := sc_law_refused_right
  refine D.cal sc bi_law_refused_right (fun g w vs h => by rw [h.1]; rfl) (fun qual f cdv A outer s E g w vs Q hr hc hp q => ?_)
  obtain ⟨b, a, ns, bn⟩ := g
  dsimp only at hp hc q
  obtain ⟨rfl, hb, ha, G, hlen⟩ := hp
  refine ⟨_, (pss_cons (ps_par (i := 3) (j := 4) rfl sc.nd rfl rfl (by decide) rfl rfl (pa_cons (pe_cc c__law_no_generators hr (by first | decide | exact Nat.le_refl _) rfl (pa_cons (pv 0) (pa_cons (pv 1) pa_nil))) (pa_cons (pe_ix (show IxR _ (rIxL K) from ix_list) (pe_cc c__law_mixed hr (by first | decide | exact Nat.le_refl _) rfl (pa_cons (pv 0) (pa_cons (pe_lst (pa_cons (pe_non) (pa_cons (pe_un un_neg (pe_int)) (pa_cons (pe_bl) (pa_cons (pe_str) (pa_cons (pe_lst (pa_cons (pe_int) pa_nil)) (pa_cons (pe_tup (pa_cons (pe_int) pa_nil)) (pa_cons (pe_dnewK) (pa_cons (pe_un un_neg (pe_op op_pow (pe_int) (pe_int))) pa_nil))))))))) pa_nil))) (pe_int) (fun _ _ => rfl)) pa_nil)) (by rfl))
    (pss_cons (ps_for PassesOwn.never rfl (show PI _ _ _ (iList K _) from pi_list (pe_lst (pa_cons (pe_str) (pa_cons (pe_str) (pa_cons (pe_str) (pa_cons (pe_str) (pa_cons (pe_str) (pa_cons (pe_str) pa_nil)))))))) (pg_name (i := 5) sc.nd rfl (.inl rfl))
      (pss_cons (ps_if (pt_not (pt_val (pe_cc c__law_same hr (by first | decide | exact Nat.le_refl _) rfl (pa_cons (pe_cc c__law_asked hr (by first | decide | exact Nat.le_refl _) rfl (pa_cons (pv 5) (pa_cons (pv 3) (pa_cons (pe_non) (pa_cons (pv 2) pa_nil))))) (pa_cons (pe_lst (pa_cons (pe_str) (pa_cons (pv 3) pa_nil))) pa_nil)))))
        (pss_one (ps_ret (pe_bl)))
        pss_nil)
      (pss_one (ps_set (i := 2) sc.nd rfl (.inl rfl) (pe_not (pv 2))))))
    (pss_one (ps_ret (pe_cc c__law_same hr (by first | decide | exact Nat.le_refl _) rfl (pa_cons (pe_lst (pa_cons (pe_cc c__law_asked hr (by first | decide | exact Nat.le_refl _) rfl (pa_cons (pe_str) (pa_cons (pv 1) (pa_cons (pv 4) (pa_cons (pv 2) pa_nil))))) (pa_cons (pe_cc c__law_asked hr (by first | decide | exact Nat.le_refl _) rfl (pa_cons (pe_str) (pa_cons (pv 3) (pa_cons (pv 4) (pa_cons (pe_not (pv 2)) pa_nil))))) pa_nil))) (pa_cons (pe_lst (pa_cons (pe_lst (pa_cons (pe_str) (pa_cons (pv 4) pa_nil))) (pa_cons (pe_lst (pa_cons (pe_str) (pa_cons (pv 3) pa_nil))) pa_nil))) pa_nil))))))), ?_⟩
  walk_at "st"
  refine ⟨(b, a, ns), w, rfl, by show w.c + 25 ≤ MAXC; omega, ⟨rfl, hb, ha, G, hlen⟩, fun bad w1 l1 c1 hbad => ?_⟩
  have c1 : w1.c ≤ w.c + 25 := c1
  have O : OddL K w1.k [] := fun v hv => absurd hv (by simp)
  have O := O.add (show Odd K _ (.non) from ⟨.none, .non, by decide +kernel, by decide +kernel, by decide +kernel⟩)
  have O := O.add (show Odd K _ (.int (-1)) from ⟨.int (-1), .int _, by decide +kernel, by decide +kernel, by decide +kernel⟩)
  have O := O.add (show Odd K _ (.bl true) from ⟨.bool true, .bl _, by decide +kernel, by decide +kernel, by decide +kernel⟩)
  have O := O.add (show Odd K _ (.str "3") from ⟨.str "3", .str _, by decide +kernel, by decide +kernel, by decide +kernel⟩)
  walk_at "st"
  refine lst_k (by show 1 ≤ 1000000; decide) fun p2 w2 l2 c2 _ h2 => ?_
  have O := (O.le l2).add (show Odd K _ (.ref p2) from ⟨.list [.int 3], .lst h2 (.cons (.int 3) .nil), by decide +kernel, by decide +kernel, by decide +kernel⟩)
  walk_at "st"
  refine tup_k (by show 1 ≤ 1000000; decide) fun p3 w3 l3 c3 _ h3 => ?_
  have O := (O.le l3).add (show Odd K _ (.ref p3) from ⟨.tuple [.int 3], .tup h3 (.cons (.int 3) .nil), by decide +kernel, by decide +kernel, by decide +kernel⟩)
  walk_at "st"
  refine dnew_k fun p4 w4 l4 c4 _ h4 => ?_
  have O := (O.le l4).add (show Odd K _ (.ref p4) from ⟨.dict [], .dic h4 List.nodup_nil .nil, by decide +kernel, by decide +kernel, by decide +kernel⟩)
  walk_at "st"
  refine x_I ⟨by decide, by decide, by decide⟩ ?_
  walk_at "st"
  have O := O.add (show Odd K _ (.int (-10 ^ (20 : Int).toNat)) from ⟨.int (-10 ^ (20 : Int).toNat), .int _, by decide +kernel, by decide +kernel, by decide +kernel⟩)
  refine lst_k (by show 8 ≤ 1000000; decide) fun p5 w5 l5 c5 _ h5 => ?_
  have O := O.le l5
  have l15 := (l2.trans l3).trans (l4.trans l5)
  obtain ⟨xs, hxs, hxl, hO⟩ : ∃ xs, w5.k p5 = some (.lst xs) ∧ xs.length = 8 ∧ OddL K w5.k xs := ⟨_, h5, rfl, O.rev rfl⟩
  clear O h5
  walk_at "st"
  refine ⟨(b, p5, xs), w5, rfl, by show w5.c + xs.length ≤ MAXC; omega, ⟨rfl, (l1.trans l15).b.trans hb, .inl (.inl (.inl hxs)), by show xs.length ≤ 1000; omega⟩, ?_⟩
  rintro r w6 l6 c6 ⟨pm, ys, rfl, nm, hm, km, perm⟩
  have c6 : w6.c ≤ w5.c + xs.length := c6
  have yl : ys.length = xs.length := perm.length_eq
  have y0 : ys[0]? = some ys[0] := List.getElem?_eq_getElem (by omega)
  walk_at "st"
  refine ix_l (.inl (.inl hm)) (at_i (by decide) y0) ?_
  generalize hodd : ys[0] = odd
  have hod : Odd K w6.k odd := (hO.le l6) odd (by rw [← hodd]; exact perm.mem_iff.mp (List.getElem_mem _))
  have l16 := l15.trans l6
  have hba : Bad K w6.k bad := hbad.mono l16.k
  obtain ⟨dB, B1, B2, B3, B4⟩ := hba
  obtain ⟨dO, O1, O2, O3, O4⟩ := hod
  have lw6 := l1.trans l16
  have c06 : w6.c ≤ w.c + 33 := by omega
  clear hbad hO
  walk_at "st"
  refine lst_k (by show 6 ≤ 1000000; decide) fun p7 w7 l7 c7 _ h7 => ?_
  have hsix : w7.k p7 = some (.lst (six.map fun k => V.str k.str)) := h7
  refine for_lst (.inl (.inl (w7.ext _ _ hsix))) ⟨fun i σ v => ∃ b' s5, σ = [some (.ref b), some (.ref a), some (.bl b'), some bad, some odd, s5] ∧ Le w7 v ∧ v.c ≤ w7.c, ⟨bn, none, rfl, Le.refl _, Nat.le_refl _⟩, ?_, ?_, ?_⟩
  · rintro i σ v hi ⟨_, _, _, lv, _⟩
    exact .inl (.inl (v.ext _ _ (lv.k _ _ hsix)))
  · rintro i x σ v hi hx ⟨b', s5, rfl, lv, cv⟩
    rw [List.getElem?_map] at hx
    obtain ⟨k, hk, rfl⟩ := Option.map_eq_some_iff.mp hx
    walk_at "st"
    refine ⟨(k, bad, dB, .non, .none, b'), v, rfl, by show v.c + 0 ≤ MAXC; omega, ⟨rfl, B1.mono (l7.trans lv).k, .non, fun z => by rw [B2] at z; cases z⟩, ?_⟩
    rintro r u lu cu ⟨pq, rfl, hans⟩
    have cu : u.c ≤ v.c + 0 := cu
    have hq : u.k pq = some (.lst [.str "generators", bad]) := by
      rcases hans with ⟨e, _⟩ | ⟨e, h⟩ | ⟨e, _⟩
      · have e : gensOK dB = true := e
        rw [B2] at e; cases e
      · exact h
      · have e : gensOK dB = true := e
        rw [B2] at e; cases e
    walk_at "st"
    refine lst_k (by show 2 ≤ 1000000; decide) fun p8 u8 l8 c8 _ h8 => ?_
    walk_at "st"
    have lall := (l7.trans lv).trans (lu.trans l8)
    refine same_call (d := .list [.str "generators", dB]) (by omega) (.lst (l8.k _ _ hq) (.cons (.str _) (.cons (B1.mono lall.k) .nil))) (.lst h8 (.cons (.str _) (.cons (B1.mono lall.k) .nil))) ?_ ?_ fun u9 l9 c9 => ?_
    · rw [keys_list, keysAll_cons, keysAll_cons, keysAll_nil, keys_str, B3]
      rfl
    · rw [dep_list, depAll_cons, depAll_cons, depAll_nil, dep_str]
      omega
    walk_at "st"
    exact ⟨u9, rfl, _, _, rfl, ((lv.trans lu).trans l8).trans l9, by omega⟩
  · rintro σ v ⟨b', s5, rfl, lv, cv⟩
    walk_at "st"
    have l6v := l7.trans lv
    refine ⟨(.contains, .ref a, .list (ns.map .int), odd, dO, b'), v, rfl, by show v.c + 0 ≤ MAXC; omega, ⟨rfl, .lst ((lw6.trans l6v).k _ _ ha) (Dats.ints ns), O1.mono l6v.k, fun _ => by show (ns.map PyData.int).length ≤ 60; rw [List.length_map]; omega⟩, ?_⟩
    rintro r u lu cu ⟨pq, rfl, hans⟩
    have cu : u.c ≤ v.c + 0 := cu
    have hq : u.k pq = some (.lst [.str "number", odd]) := by
      have gy : gensOK (.list (ns.map .int)) = true := gens_yes rfl rfl G (by omega)
      rcases hans with ⟨e, e2, _⟩ | ⟨e, h⟩ | ⟨e, _, _, h⟩
      · have e2 : isCt dO = true := e2 rfl
        rw [O2] at e2; cases e2
      · have e : gensOK (.list (ns.map .int)) = false := e
        rw [gy] at e; cases e
      · exact h
    walk_at "st"
    refine ⟨(.contains, bad, dB, odd, dO, !b'), u, rfl, by show u.c + 0 ≤ MAXC; omega, ⟨rfl, B1.mono (l6v.trans lu).k, O1.mono (l6v.trans lu).k, fun z => by rw [B2] at z; cases z⟩, ?_⟩
    rintro r u2 l2' cu2 ⟨pr, rfl, hans⟩
    have cu2 : u2.c ≤ u.c + 0 := cu2
    have hr' : u2.k pr = some (.lst [.str "generators", bad]) := by
      rcases hans with ⟨e, _⟩ | ⟨e, h⟩ | ⟨e, _⟩
      · have e : gensOK dB = true := e
        rw [B2] at e; cases e
      · exact h
      · have e : gensOK dB = true := e
        rw [B2] at e; cases e
    walk_at "st"
    refine lst_k (by show 2 ≤ 1000000; decide) fun q1 v1 m1 d1 _ e1 => ?_
    walk_at "st"
    refine lst_k (by show 2 ≤ 1000000; decide) fun q2 v2 m2 d2 _ e2 => ?_
    walk_at "st"
    refine lst_k (by show 2 ≤ 1000000; decide) fun q3 v3 m3 d3 _ e3 => ?_
    walk_at "st"
    refine lst_k (by show 2 ≤ 1000000; decide) fun q4 v4 m4 d4 _ e4 => ?_
    walk_at "st"
    have m14 := (m1.trans m2).trans (m3.trans m4)
    have lall := (l6v.trans lu).trans (l2'.trans m14)
    have dB' := B1.mono lall.k
    have dO' := O1.mono lall.k
    refine same_call (d := .list [.list [.str "number", dO], .list [.str "generators", dB]]) (by omega)
      (.lst ((m2.trans (m3.trans m4)).k _ _ e1) (.cons (.lst ((l2'.trans m14).k _ _ hq) (.cons (.str _) (.cons dO' .nil))) (.cons (.lst (m14.k _ _ hr') (.cons (.str _) (.cons dB' .nil))) .nil)))
      (.lst e4 (.cons (.lst ((m3.trans m4).k _ _ e2) (.cons (.str _) (.cons dO' .nil))) (.cons (.lst (m4.k _ _ e3) (.cons (.str _) (.cons dB' .nil))) .nil))) ?_ ?_ fun u9 l9 c9 => ?_
    · simp only [keys_list, keysAll_cons, keysAll_nil, keys_str, B3, O3]
      rfl
    · simp only [dep_list, depAll_cons, depAll_nil, dep_str]
      omega
    exact q _ u9 ((lw6.trans lall).trans l9) (by omega) rfl
end

end Sb
set_option Elab.async false
set_option linter.all false
set_option maxRecDepth 100000
set_option maxHeartbeats 4000000
namespace Sb
open PySem PySem.Spec PyProof.Rows L2
open C8 (fnScope_by)
local macro_rules | `(tactic| walk_at "st") => `(tactic| repeat (first
  | ((with_reducible refine' x_var ?hvar ?_); (case hvar => rfl)) | with_reducible refine x_c ?_ | with_reducible refine x_op ?_ | with_reducible refine x_un ?_ | with_reducible refine x_test ?_ | with_reducible refine x_tb ?_
  | with_reducible refine x_and ?_ | with_reducible refine x_or ?_ | with_reducible refine x_not ?_ | with_reducible refine x_andV ?_ | with_reducible refine x_orV ?_ | with_reducible refine x_notV ?_ | with_reducible refine x_if ?_
  | with_reducible refine x_nil ?_ | with_reducible refine x_cons ?_ | with_reducible refine x_cb ?_ | with_reducible refine x_call ?_ | with_reducible refine x_callS ?_ | with_reducible refine x_callKS ?_ | with_reducible refine x_chain ?_ | with_reducible refine x_sl ?_
  | with_reducible refine x_part ?_ | with_reducible refine x_nopart ?_ | with_reducible refine x_seq ?_ | with_reducible refine x_asg ?_ | with_reducible refine x_gn ?_ | with_reducible refine x_gsub ?_ | with_reducible refine x_par ?_ | with_reducible refine x_par3 ?_
  | with_reducible refine x_ret ?_ | with_reducible refine x_drop ?_ | with_reducible refine x_ifS ?_ | with_reducible refine x_next ?_ | with_reducible refine x_I0 ?_ | with_reducible refine x_U ?_ | with_reducible refine x_eqI ?_
  | with_reducible refine x_eqS ?_ | with_reducible refine x_bm ?_ | with_reducible refine x_tup ?_ | with_reducible refine x_lst ?_ | with_reducible refine x_lstRg ?_ | with_reducible refine x_rg1 ?_ | with_reducible refine x_rg2 ?_
  | with_reducible refine x_forL ?_ | with_reducible refine x_forS ?_ | with_reducible refine x_forT ?_ | with_reducible refine x_forR1 ?_ | with_reducible refine x_forR2 ?_ | with_reducible refine x_lcL ?_ | with_reducible refine x_lcS ?_ | with_reducible refine x_lcR1 ?_ | with_reducible refine x_lcR2 ?_
  | with_reducible refine x_yes ?_ | with_reducible refine x_mkO ?_ | with_reducible refine x_dget ?_ | with_reducible refine x_din ?_ | with_reducible refine x_dnotin ?_ | with_reducible refine x_dput ?_ | with_reducible refine x_forR3 ?_ | with_reducible refine x_lcR3 ?_ | with_reducible refine x_lcD ?_ | with_reducible refine x_lc2R ?_
  | with_reducible refine iteF ?_ | with_reducible refine iteT ?_ | with_reducible refine iteNF ?_ | with_reducible refine iteNT ?_ | with_reducible refine ⟨_, rfl, ?_⟩ | with_reducible refine ⟨_, _, rfl, ?_⟩ | with_reducible refine ⟨_, _, rfl, rfl, ?_⟩))

/-! ### what is right -/
theorem ints_inj : ∀ {xs ys : List Int}, xs.map PyData.int = ys.map PyData.int → xs = ys
  | [], [], _ => rfl
  | [], _ :: _, h => by cases h
  | _ :: _, [], h => by cases h
  | x :: r, y :: t, h => by
    rw [List.map_cons, List.map_cons] at h
    injection h with h1 h2
    injection h1 with h1
    rw [h1, ints_inj h2]
theorem asc_ex {ns : List Int} (h : ∀ x ∈ ns, 1 ≤ x ∧ x ≤ 200) : ∃ nz, Asc nz ns := by
  refine ⟨((List.range 201).map fun i : Nat => (i : Int)).filter fun k => decide (k ∈ ns), ?_, fun k => ?_⟩
  · refine List.Pairwise.filter _ ?_
    rw [List.pairwise_map]
    exact List.pairwise_lt_range.imp fun h => by omega
  · rw [List.mem_filter, decide_eq_true_eq]
    constructor
    · exact fun z => z.2
    · intro z
      have := h k z
      exact ⟨List.mem_map.mpr ⟨k.toNat, List.mem_range.mpr (by omega), by omega⟩, z⟩
theorem max_ex : ∀ {l : List Int}, l ≠ [] → ∃ x ∈ l, ∀ y ∈ l, y ≤ x
  | [], h => absurd rfl h
  | [x], _ => ⟨x, List.mem_cons_self, fun y hy => by rw [List.mem_singleton.mp hy]; exact Int.le_refl _⟩
  | x :: z :: r, _ => by
    obtain ⟨m, hm, h⟩ := max_ex (l := z :: r) (by simp)
    by_cases c : m ≤ x
    · refine ⟨x, List.mem_cons_self, fun y hy => ?_⟩
      rcases List.mem_cons.mp hy with e | e
      · omega
      · have := h y e
        omega
    · refine ⟨m, List.mem_cons_of_mem _ hm, fun y hy => ?_⟩
      rcases List.mem_cons.mp hy with e | e
      · omega
      · exact h y e
theorem frob_ex {ns gs : List Int} (G : Gn ns) (g : GapsOf ns gs) : ∃ n, FrobOf ns n ∧ n ≤ 40000 := by
  obtain ⟨m, f, A, _⟩ := g.ex
  have hm := G.pos m A.im
  obtain ⟨x, hx, top⟩ := max_ex (l := tab m f) (fun e => by
    have := @tab_len m f
    rw [e] at this
    have : 0 = m.toNat := this
    omega)
  refine ⟨x - m, ⟨m, f, x, A, hx, top, rfl⟩, ?_⟩
  obtain ⟨r, r0, r1, rfl⟩ := tab_mem.mp hx
  have := A.L.bnd r r0 r1
  omega
noncomputable def dueD (nz gs : List Int) (n : Int) : W6 → PyData
  | .contains => .none
  | .minimal => .tuple ((minF nz).map .int)
  | .gaps => .list (gs.map .int)
  | .genus => .int (gs.length : Nat)
  | .frobenius => .int n
  | .conductor => .int (n + 1)
def five : List W6 := [.minimal, .gaps, .genus, .frobenius, .conductor]
noncomputable def toldD (nz gs : List Int) (n : Int) (k : W6) : PyData := .list [.str "told", dueD nz gs n k]
noncomputable def dueAll (nz gs : List Int) (n : Int) : PyData := .list (five.map (toldD nz gs n))
theorem dueAll_dep {nz gs : List Int} {n : Int} : dep (dueAll nz gs n) ≤ 5 := by
  have h1 := dep_ints (minF nz)
  have h2 := dep_ints gs
  show dep (.list [.list [.str "told", .tuple ((minF nz).map .int)], .list [.str "told", .list (gs.map .int)], .list [.str "told", .int (gs.length : Nat)], .list [.str "told", .int n], .list [.str "told", .int (n + 1)]]) ≤ 5
  simp only [dep_list, dep_tuple, depAll_cons, depAll_nil, dep_str, dep_int]
  omega
theorem dueAll_keys {nz gs : List Int} {n : Int} (h1 : (minF nz).length ≤ 1000000) (h2 : gs.length ≤ 1000000) : noKeys (dueAll nz gs n) = true := by
  show noKeys (.list [.list [.str "told", .tuple ((minF nz).map .int)], .list [.str "told", .list (gs.map .int)], .list [.str "told", .int (gs.length : Nat)], .list [.str "told", .int n], .list [.str "told", .int (n + 1)]]) = true
  simp only [keys_list, keys_tuple, keysAll_cons, keysAll_nil, keys_str, keys_int, keys_ints, List.length_map, decide_eq_true h1, decide_eq_true h2]
  rfl
theorem told_due {K : PySem.W.Frag} {k : W6} {ns ns0 nz gs : List Int} {n : Int} {dx : PyData} {w u : Wo} {val : V} (h : toldR k ns dx w val u) (hk : k ≠ .contains) (A : Asc nz ns0) (g : GapsOf ns0 gs) (Fr : FrobOf ns0 n) (pm : ns.Perm ns0) : Dat K u.k val (dueD nz gs n k) := by
  cases k with
  | contains => exact absurd rfl hk
  | minimal =>
    obtain ⟨p, ns', rfl, a, hp⟩ := h
    have := (a.perm pm).uniq A
    subst this
    exact .tup hp (Dats.ints _)
  | gaps =>
    obtain ⟨p, gs', rfl, np, hp, g', z⟩ := h
    have := (g'.perm pm).uniq g
    subst this
    exact .lst hp (Dats.ints _)
  | genus =>
    obtain ⟨gs', rfl, g'⟩ := h
    have := (g'.perm pm).uniq g
    subst this
    exact .int _
  | frobenius =>
    obtain ⟨n', rfl, f'⟩ := h
    have := (f'.perm pm).uniq Fr
    subst this
    exact .int _
  | conductor =>
    obtain ⟨n', rfl, f'⟩ := h
    have := (f'.perm pm).uniq Fr
    subst this
    exact .int _
/-- what is told so far -/
def TI (K : PySem.W.Frag) (w : Wo) (D : W6 → PyData) (i : Nat) (acc : List V) (kk : Hp) : Prop := Dats K kk acc ((five.take i).map D) ∧ (2 ≤ i → ∃ (q p : Addr) (xs : List V), acc[1]? = some (.ref q) ∧ kk q = some (.lst [.str "told", .ref p]) ∧ kk p = some (.lst xs) ∧ w.h p = none ∧ xs.length ≤ 40000)
theorem ti_step {K : PySem.W.Frag} {w v v' u : Wo} {ns0 nz gs : List Int} {n : Int} {i : Nat} {acc : List V} {k : W6} {vv x r : V} {d dx : PyData} (hk : five[i]? = some k) (I : TI K w (toldD nz gs n) i acc v.k) (lv : Le v v') (l : Le v' u) (lw : Le w v') (a : ansR k vv d x dx v' r u) (g : gensOK d = true)
    (td : ∀ ns : List Int, itemsD d = ns.map PyData.int → ns.Perm ns0) (A : Asc nz ns0) (gp : GapsOf ns0 gs) (Fr : FrobOf ns0 n) : TI K w (toldD nz gs n) (i + 1) (acc ++ [r]) u.k := by
  obtain ⟨I1, I2⟩ := I
  have hne : k ≠ .contains := fun e => by
    have := List.mem_of_getElem? hk
    rw [e] at this
    simp [five] at this
  obtain ⟨q, rfl, h⟩ := a
  obtain ⟨ns, val, hns, G, hq, hr⟩ : ∃ (ns : List Int) (val : V), itemsD d = ns.map PyData.int ∧ Gn ns ∧ u.k q = some (.lst [.str "told", val]) ∧ toldR k ns dx v' val u := by
    rcases h with ⟨_, _, ns, val, h⟩ | ⟨e, _⟩ | ⟨_, e, _⟩
    · exact ⟨ns, val, h⟩
    · rw [g] at e; cases e
    · exact absurd e hne
  have hd := told_due (K := K) hr hne A gp Fr (td ns hns)
  have le := lv.trans l
  have al : acc.length = i := by
    have h1 := I1.length
    have h2 := (List.getElem?_eq_some_iff.mp hk).1
    rw [List.length_map, List.length_take] at h1
    omega
  refine ⟨?_, fun h2 => ?_⟩
  · rw [List.take_add_one, hk, List.map_append]
    exact (I1.mono le.k).append (.cons (.lst hq (.cons (.str _) (.cons hd .nil))) .nil)
  · by_cases hi : 2 ≤ i
    · obtain ⟨q', p, xs, h3, h4, h5, h6, h7⟩ := I2 hi
      exact ⟨q', p, xs, by rw [List.getElem?_append_left (by omega)]; exact h3, le.k _ _ h4, le.k _ _ h5, h6, h7⟩
    · have : i = 1 := by omega
      subst this
      have : k = .gaps := (Option.some.inj hk).symm
      subst this
      obtain ⟨p, gs', rfl, np, hp, _, z⟩ := hr
      exact ⟨q, p, _, by rw [List.getElem?_append_right (by omega), al]; rfl, hq, hp, lw.fresh np, by rw [List.length_map]; exact z⟩
theorem frz_w2 {w0 u : Wo} (e : Le w0 u) {p : Addr} {o : HO} (h0 : w0.h p = none) (hp : u.h p = some o) (hk : u.k p = none) : ∃ z : Wo, z.h = u.h ∧ Le w0 z ∧ z.c = u.c ∧ z.k p = some o ∧ Same u.k z.k :=
  ⟨u.frz p o hp (e.nobox h0), rfl, e.frz hp (e.nobox h0) h0 hk, rfl, upd_same, same_new hk⟩
/-- what has stood for good since w is owned again -/
theorem back_w {w u : Wo} (l : Le w u) : ∃ z : Wo, z.h = u.h ∧ z.k = w.k ∧ z.c = u.c ∧ z.b = u.b ∧ Le w z :=
  ⟨{ k := w.k, h := u.h, b := u.b, c := u.c, ext := fun a o e => u.ext a o (l.k a o e), bx := fun a e => ⟨by
      obtain ⟨n, _⟩ := w.bx a (by rw [← l.b]; exact e)
      exact n, (u.bx a e).2⟩ }, rfl, rfl, rfl, rfl, ⟨l.b, Same.refl _, l.h, fun a o h n => n, l.c⟩⟩
section
variable {P : Program} {w0 : World} {K : PySem.W.Frag} {mg : Str → Option Value} {base : Heap}
abbrev s_law_right : Stmt := topS 40
theorem sc_law_right : FnScope ["box", "generators", "by_name", "m", "due", "least", "most", "given", "told", "word", "number"] ["box", "generators", "by_name"] (defScope s_law_right) := fnScope_by (by decide +kernel)
theorem bi_law_right : BindsBy "_law_right" s_law_right ["box", "generators", "by_name"] := fun _ _ _ _ _ _ us hl => match us, hl with | [_, _, _], _ => rfl
abbrev sp_law_right (K : PySem.W.Frag) : Sp := SpG (γ := Addr × Addr × List Int × Bool) (fun _ => 300) (fun g w vs => vs = [.ref g.1, .ref g.2.1, .bl g.2.2.2] ∧ w.b = some g.1 ∧ w.k g.2.1 = some (.lst (g.2.2.1.map V.int)) ∧ Gn g.2.2.1 ∧ g.2.2.1.length ≤ 40) (fun g w r u => r = .bl true)
theorem c_law_right (D : Df K mg "_law_right" s_law_right) (T : Tx mg) (c__law_take : Cal P w0 K mg base CX0 1 "_law_take" ["box", "many"] sp_law_take) (c__law_mixed : Cal P w0 K mg base CX0 2 "_law_mixed" ["box", "items"] (sp_law_mixed K)) (c__law_gaps : Cal P w0 K mg base CX0 2 "_law_gaps" ["generators"] (sp_law_gaps K))
    (c__law_least : Cal P w0 K mg base CX0 1 "_law_least" ["generators", "m"] (sp_law_least K)) (c__law_minimal : Cal P w0 K mg base CX0 1 "_law_minimal" ["generators"] (sp_law_minimal K)) (c__law_numbers : Cal P w0 K mg base CX0 2 "_law_numbers" ["box", "m", "least", "most"] (sp_law_numbers K))
    (c__law_asked : Cal P w0 K mg base CX0 6 "_law_asked" ["word", "generators", "number", "by_name"] (sp_law_asked K)) (c__law_same : Cal P w0 K mg base CX0 5 "_law_same" ["given", "due"] (sp_law_same K 5)) :
    Cal P w0 K mg base CX0 7 "_law_right" ["box", "generators", "by_name"] (sp_law_right K) := by
  have sc := sc_law_right
  refine D.cal sc bi_law_right (fun g w vs h => by rw [h.1]; rfl) (fun qual f cdv A outer s E g w vs Q hr hc hp q => ?_)
  obtain ⟨b, a, ns, bn⟩ := g
  dsimp only at hp hc q
  obtain ⟨rfl, hb, ha, G, hlen⟩ := hp
  refine ⟨_, (pss_cons (ps_par (i := 3) (j := 4) rfl sc.nd rfl rfl (by decide) rfl rfl (pa_cons (pe_callB (show CallR _ _ (rMinS K) from (cr_minS rfl hr.units)) (by rfl) T.m_min boot_min (pa_cons (pv 1) pa_nil)) (pa_cons (pe_cc c__law_gaps hr (by first | decide | exact Nat.le_refl _) rfl (pa_cons (pv 1) pa_nil)) pa_nil)) (by rfl))
    (Evl.pss_cut (ps_par (i := 5) (j := 6) rfl sc.nd rfl rfl (by decide) rfl rfl (pa_cons (pe_cc c__law_least hr (by first | decide | exact Nat.le_refl _) rfl (pa_cons (pv 1) (pa_cons (pv 3) pa_nil))) (pa_cons (pe_ifExp (pt_cmpR (show OpR _ _ (rNeD K) from (op_neD hr.units)) (pv 4) (pe_lst pa_nil) (nomark _)) (pe_ix (show IxR _ (rIxL K) from ix_list) (pv 4) (pe_un un_neg (pe_int)) (fun _ _ => rfl)) (pe_un un_neg (pe_int))) pa_nil)) (by rfl))
    (Evl.pss_cut (ps_set (i := 7) sc.nd rfl (.inr rfl) (pe_ifExp (pt_cmpR op_eq (pe_cc c__law_take hr (by first | decide | exact Nat.le_refl _) rfl (pa_cons (pv 0) (pa_cons (pe_int) pa_nil))) (pe_int) (nomark _)) (pe_callTy (show CallR _ _ (rTupleOf K) from cr_tupleOf) (by rfl) T.m_tuple boot_tuple (pa_cons (pv 1) pa_nil)) (pe_callTy (show CallR _ _ (rListOf K) from cr_listOf) (by rfl) T.m_list boot_list (pa_cons (pv 1) pa_nil))))
    (pss_cons (ps_setLc (i := 8) rfl sc.nd rfl rfl (sw_true rfl rfl rfl (by decide +kernel))  (own := [("word", 9)]) (show PI _ _ _ (iList K _) from pi_list (pe_lst (pa_cons (pe_str) (pa_cons (pe_str) (pa_cons (pe_str) (pa_cons (pe_str) (pa_cons (pe_str) pa_nil))))))) (blkOk_by (N := ["box", "generators", "by_name", "m", "due", "least", "most", "given", "told", "word", "number"]) (sc := defScope s_law_right) (by decide +kernel)) (fun _ _ _ _ _ => (pg_name (i := 9) sc.nd rfl (.inl rfl))) (fun _ _ _ _ _ => pts_nil) (fun _ _ _ _ _ => (pe_cc c__law_asked hr (by first | decide | exact Nat.le_refl _) rfl (pa_cons (pv 9) (pa_cons (pv 7) (pa_cons (pe_non) (pa_cons (pv 2) pa_nil)))))))
    (pss_cons (ps_if (pt_not (pt_val (pe_cc c__law_same hr (by first | decide | exact Nat.le_refl _) rfl (pa_cons (pv 8) (pa_cons (pe_lst (pa_cons (pe_lst (pa_cons (pe_str) (pa_cons (pe_cc c__law_minimal hr (by first | decide | exact Nat.le_refl _) rfl (pa_cons (pv 1) pa_nil)) pa_nil))) (pa_cons (pe_lst (pa_cons (pe_str) (pa_cons (pv 4) pa_nil))) (pa_cons (pe_lst (pa_cons (pe_str) (pa_cons (pe_callB (show CallR _ _ (rLen K) from cr_len) (by rfl) T.m_len boot_len (pa_cons (pv 4) pa_nil)) pa_nil))) (pa_cons (pe_lst (pa_cons (pe_str) (pa_cons (pv 6) pa_nil))) (pa_cons (pe_lst (pa_cons (pe_str) (pa_cons (pe_op op_add (pv 6) (pe_int)) pa_nil))) pa_nil)))))) pa_nil)))))
      (pss_one (ps_ret (pe_bl)))
      pss_nil)
    (pss_cons (ps_expr (show PE _ _ (tBM K _ _ _ _) from pe_bm PySem.F.plainAttrs_list PySem.F.slot_list_append PySem.F.type_list_append mt_append (pe_ix (show IxR _ (rIx K) from ix_seq) (pe_ix (show IxR _ (rIxL K) from ix_list) (pv 8) (pe_int) (fun _ _ => rfl)) (pe_int) (fun _ _ => rfl)) (pa_cons (pe_str) pa_nil)))
    (pss_cons (ps_setLc (i := 8) rfl sc.nd rfl rfl (sw_true rfl rfl rfl (by decide +kernel))  (own := [("word", 9)]) (show PI _ _ _ (iList K _) from pi_list (pe_lst (pa_cons (pe_str) (pa_cons (pe_str) (pa_cons (pe_str) (pa_cons (pe_str) (pa_cons (pe_str) pa_nil))))))) (blkOk_by (N := ["box", "generators", "by_name", "m", "due", "least", "most", "given", "told", "word", "number"]) (sc := defScope s_law_right) (by decide +kernel)) (fun _ _ _ _ _ => (pg_name (i := 9) sc.nd rfl (.inl rfl))) (fun _ _ _ _ _ => pts_nil) (fun _ _ _ _ _ => (pe_cc c__law_asked hr (by first | decide | exact Nat.le_refl _) rfl (pa_cons (pv 9) (pa_cons (pe_cc c__law_mixed hr (by first | decide | exact Nat.le_refl _) rfl (pa_cons (pv 0) (pa_cons (pv 1) pa_nil))) (pa_cons (pe_non) (pa_cons (pe_not (pv 2)) pa_nil)))))))
    (pss_cons (ps_if (pt_not (pt_val (pe_cc c__law_same hr (by first | decide | exact Nat.le_refl _) rfl (pa_cons (pv 8) (pa_cons (pe_lst (pa_cons (pe_lst (pa_cons (pe_str) (pa_cons (pe_cc c__law_minimal hr (by first | decide | exact Nat.le_refl _) rfl (pa_cons (pv 1) pa_nil)) pa_nil))) (pa_cons (pe_lst (pa_cons (pe_str) (pa_cons (pv 4) pa_nil))) (pa_cons (pe_lst (pa_cons (pe_str) (pa_cons (pe_callB (show CallR _ _ (rLen K) from cr_len) (by rfl) T.m_len boot_len (pa_cons (pv 4) pa_nil)) pa_nil))) (pa_cons (pe_lst (pa_cons (pe_str) (pa_cons (pv 6) pa_nil))) (pa_cons (pe_lst (pa_cons (pe_str) (pa_cons (pe_op op_add (pv 6) (pe_int)) pa_nil))) pa_nil)))))) pa_nil)))))
      (pss_one (ps_ret (pe_bl)))
      pss_nil)
    (pss_cons (ps_for PassesOwn.never rfl (show PI _ _ _ (iList K _) from pi_list (pe_cc c__law_numbers hr (by first | decide | exact Nat.le_refl _) rfl (pa_cons (pv 0) (pa_cons (pv 3) (pa_cons (pv 5) (pa_cons (pe_callB (cr_max2 rfl) (by rfl) T.m_max boot_max (pa_cons (pv 6) (pa_cons (pe_int) pa_nil))) pa_nil)))))) (pg_name (i := 10) sc.nd rfl (.inl rfl))
      (pss_cons (ps_if (pt_not (pt_val (pe_cc c__law_same hr (by first | decide | exact Nat.le_refl _) rfl (pa_cons (pe_cc c__law_asked hr (by first | decide | exact Nat.le_refl _) rfl (pa_cons (pe_str) (pa_cons (pv 7) (pa_cons (pv 10) (pa_cons (pv 2) pa_nil))))) (pa_cons (pe_lst (pa_cons (pe_str) (pa_cons (pe_cmpR op_ge (pv 10) (pe_ix (show IxR _ (rIxL K) from ix_list) (pv 5) (pe_op op_modN (pe_callTy cr_int (by rfl) T.m_int boot_int (pa_cons (pv 10) pa_nil)) (pv 3)) (fun _ _ => rfl)) (nomark _)) pa_nil))) pa_nil)))))
        (pss_one (ps_ret (pe_bl)))
        pss_nil)
      (pss_one (ps_set (i := 2) sc.nd rfl (.inr rfl) (pe_not (pv 2))))))
    (pss_one (ps_ret (pe_cmpR op_eq (pe_callB (show CallR _ _ (rLen K) from cr_len) (by rfl) T.m_len boot_len (pa_cons (pv 7) pa_nil)) (pe_callB (show CallR _ _ (rLen K) from cr_len) (by rfl) T.m_len boot_len (pa_cons (pv 1) pa_nil)) (nomark _))))))))))))), ?_⟩
  have sq : SqL K w.k a (ns.map V.int) := .inl (.inl ha)
  walk_at "st"
  refine minS_i (SqS.l (w.ext _ _ ha)) (List.length_pos_iff.mpr G.ne) fun m hm lo => ?_
  have hm1 := G.pos m hm
  walk_at "st"
  refine ⟨(a, ns), w, rfl, by show w.c + 0 ≤ MAXC; omega, ⟨rfl, sq, G⟩, ?_⟩
  rintro r w1 l1 c1 ⟨pD, gs, rfl, nD, hD1, GO, gl⟩
  have c1 : w1.c ≤ w.c + 0 := c1
  have GO : GapsOf ns gs := GO
  obtain ⟨n, Fr, n4⟩ := frob_ex G GO
  obtain ⟨nz, AZ⟩ := asc_ex G.pos
  have fg := frob_gaps G GO Fr
  have hmin : (minF nz).length ≤ 1000000 := by
    have h1 := @minF_len nz
    have h2 := rng_len (ks := nz) (m := 201) (AZ.lt.imp fun h => by omega) fun k hk => by
      have := G.pos k ((AZ.mem k).mp hk)
      omega
    omega
  walk_at "st"
  refine ⟨At fun σ v => ∃ pl fn, σ = [some (.ref b), some (.ref a), some (.bl bn), some (.int m), some (.ref pD), some (.ref pl), some (.int n), none, none, none, none] ∧ Le w v ∧ v.c ≤ w.c + 0 ∧ v.k pD = some (.lst (gs.map V.int)) ∧ v.k pl = some (.lst ((tab m fn).map V.int)) ∧ Apy ns m fn, ?_, ?_⟩
  · walk_at "st"
    refine ⟨(a, ns, m), w1, rfl, by show w1.c + 0 ≤ MAXC; omega, ⟨rfl, seq_l l1.k sq, G, hm1.1, hm1.2⟩, ?_⟩
    rintro r w2 l2 c2 ⟨pl, fn, rfl, hl, L⟩
    have c2 : w2.c ≤ w1.c + 0 := c2
    have L : IsLeast ns m fn := L
    have hl : w2.k pl = some (.lst ((tab m fn).map V.int)) := hl
    walk_at "st"
    refine lst_k (by show 0 ≤ 1000000; decide) fun pe w3 l3 c3 _ he => ?_
    have hD3 := (l2.trans l3).k _ _ hD1
    refine neNil_ints (.inl (.inl (w3.ext _ _ hD3))) (w3.ext _ _ he) ?_
    walk_at "st"
    have fin : ∀ o, some (V.int n) = o → At (fun σ v => ∃ pl fn, σ = [some (.ref b), some (.ref a), some (.bl bn), some (.int m), some (.ref pD), some (.ref pl), some (.int n), none, none, none, none] ∧ Le w v ∧ v.c ≤ w.c + 0 ∧ v.k pD = some (.lst (gs.map V.int)) ∧ v.k pl = some (.lst ((tab m fn).map V.int)) ∧ Apy ns m fn)
        [some (.ref b), some (.ref a), some (.bl bn), some (.int m), some (.ref pD), some (.ref pl), o, none, none, none, none] w3.h := fun o e => by
      subst e
      exact ⟨w3, rfl, pl, fn, rfl, (l1.trans l2).trans l3, by omega, hD3, l3.k _ _ hl, ⟨hm, lo, L⟩⟩
    by_cases hg : gs = []
    · rw [show (!gs.isEmpty) = false by rw [hg]; rfl]
      walk_at "st"
      rw [if_pos hg] at fg
      exact fin _ (by rw [fg])
    · rw [show (!gs.isEmpty) = true by cases gs with | nil => exact absurd rfl hg | cons _ _ => rfl]
      walk_at "st"
      rw [if_neg hg] at fg
      have hl0 : gs.length ≠ 0 := fun e => hg (List.length_eq_zero_iff.mp e)
      refine ix_l (.inl (.inl (w3.ext _ _ hD3))) (v := .int n) (at_last ?_) ?_
      · rw [List.length_map, List.getElem?_map]
        have : gs[gs.length - 1]? = some n := by
          rw [fg, List.getLastD_eq_getLast?, List.getLast?_eq_getElem?]
          rw [List.getElem?_eq_getElem (by omega)]
          rfl
        rw [this]
        rfl
      · walk_at "st"
        exact fin _ rfl
  rintro σ _ ⟨w3, rfl, pl, fn, rfl, l3, c3, hD, hl, AP⟩
  have hc3 : w3.k a = some (.lst (ns.map V.int)) := l3.k _ _ ha
  refine ⟨At fun σ v => ∃ gv dG, σ = [some (.ref b), some (.ref a), some (.bl bn), some (.int m), some (.ref pD), some (.ref pl), some (.int n), some (.ref gv), none, none, none] ∧ Le w3 v ∧ v.c ≤ w3.c + 1 ∧ Dat K v.k (.ref gv) dG ∧ SqS K v.k gv (ns.map V.int) ∧ isL dG = true ∧ itemsD dG = ns.map PyData.int, ?_, ?_⟩
  · walk_at "st"
    refine ⟨(b, 2), w3, rfl, by show w3.c + 1 ≤ MAXC; omega, ⟨rfl, l3.b.trans hb, (by decide : (1 : Int) ≤ 2), (by decide : (2 : Int) < 1073741824)⟩, ?_⟩
    rintro r w4 l4 c4 ⟨i, rfl, i0, i1⟩
    have c4 : w4.c ≤ w3.c + 1 := c4
    walk_at "st"
    refine ite_b (fun e => ?_) (fun e => ?_)
    · walk_at "st"
      refine tupleOf_l (.inl (.inl (w4.ext _ _ (l4.k _ _ hc3)))) fun p w5 l5 c5 _ h5 => ?_
      walk_at "st"
      exact ⟨w5, rfl, p, .tuple (ns.map .int), rfl, l4.trans l5, by omega, .tup h5 (Dats.ints ns), SqS.t h5, rfl, rfl⟩
    · walk_at "st"
      refine listOf_k (SqS.l (w4.ext _ _ (l4.k _ _ hc3))) fun p w5 l5 c5 _ h5 => ?_
      walk_at "st"
      exact ⟨w5, rfl, p, .list (ns.map .int), rfl, l4.trans l5, by omega, .lst h5 (Dats.ints ns), SqS.l h5, rfl, rfl⟩
  · rintro σ _ ⟨w4, rfl, gv, dG, rfl, l4, c4, hG, sG, iG, eG⟩
    have gG : gensOK dG = true := gens_yes iG eG G (by omega)
    have hperm : ∀ ns' : List Int, itemsD dG = ns'.map PyData.int → ns'.Perm ns := fun ns' e => by
      rw [eG] at e
      rw [ints_inj e]
    have W4 := l3.trans l4
    have lG : (itemsD dG).length ≤ 60 := by rw [eG, List.length_map]; omega
    walk_at "st"
    refine lst_k (by show 5 ≤ 1000000; decide) fun pw w5 l5 c5 _ h5 => ?_
    have hfive : w5.k pw = some (.lst (five.map fun k => V.str k.str)) := h5
    have W5 := W4.trans l5
    refine lc_lst (.inl (.inl hfive)) ⟨0, TI K w5 (toldD nz gs n), ⟨.nil, fun h => absurd h (by decide)⟩, by show 5 ≤ 1000000; decide, fun i x acc v hi hx lv cv hI Qy Qn qy qn => ?_, fun tp acc v lv cv np htp ktp hI => ?_⟩
    · have hx : (five.map fun k => V.str k.str)[i]? = some x := hx
      rw [List.getElem?_map] at hx
      obtain ⟨k, hk, rfl⟩ := Option.map_eq_some_iff.mp hx
      refine x_gn ⟨rfl, x_yes ?_⟩
      walk_at "st"
      refine ⟨(k, .ref gv, dG, .non, .none, bn), v, rfl, by show v.c + 0 ≤ MAXC; omega, ⟨rfl, hG.mono (l5.trans lv).k, .non, fun _ => lG⟩, ?_⟩
      intro r u lu cu hans
      exact qy _ u lu cu (ti_step hk hI (Le.refl _) lu lv hans gG hperm AZ GO Fr)
    obtain ⟨I1, I2⟩ := hI
    obtain ⟨tq, tg, txs, t1, t2, t3, t4, t5⟩ := I2 (by show 2 ≤ five.length; decide)
    obtain ⟨z, zh, lz, zc, zk, zs⟩ := frz_w2 lv np htp ktp
    have cv : v.c ≤ w5.c + 5 * 0 := cv
    rw [← zh]
    have Wz := l5.trans lz
    have hD4 : w4.k pD = some (.lst (gs.map V.int)) := l4.k _ _ hD
    have ha4 : w4.k a = some (.lst (ns.map V.int)) := l4.k _ _ hc3
    have aT := zk
    have aDT : Dats K z.k acc (five.map (toldD nz gs n)) := by
      have := I1.mono zs
      rwa [List.length_map, List.take_length] at this
    walk_at "st"
    refine ⟨(a, ns), z, rfl, by show z.c + 0 ≤ MAXC; omega, ⟨rfl, .inl (.inl (Wz.k _ _ ha4)), G, by show ns.length ≤ 60; omega⟩, ?_⟩
    rintro r au1 al1 ac1 ⟨apm, anz, rfl, aA, ahm⟩
    have ac1 : au1.c ≤ z.c + 0 := ac1
    rw [aA.uniq AZ] at ahm
    have aW1 := Wz.trans al1
    walk_at "st"
    refine lst_k (by show 2 ≤ 1000000; decide) fun ap2 au2 al2 ac2 _ ah2 => ?_
    walk_at "st"
    refine lst_k (by show 2 ≤ 1000000; decide) fun ap3 au3 al3 ac3 _ ah3 => ?_
    walk_at "st"
    refine len_s (SqS.l (au3.ext _ _ (((aW1.trans al2).trans al3).k _ _ hD4))) ?_
    rw [List.length_map]
    walk_at "st"
    refine lst_k (by show 2 ≤ 1000000; decide) fun ap4 au4 al4 ac4 _ ah4 => ?_
    walk_at "st"
    refine lst_k (by show 2 ≤ 1000000; decide) fun ap5 au5 al5 ac5 _ ah5 => ?_
    walk_at "st"
    refine lst_k (by show 2 ≤ 1000000; decide) fun ap6 au6 al6 ac6 _ ah6 => ?_
    walk_at "st"
    refine lst_k (by show 5 ≤ 1000000; decide) fun ap7 au7 al7 ac7 _ ah7 => ?_
    walk_at "st"
    have aL67 := al6.trans al7
    have aL57 := al5.trans aL67
    have aL47 := al4.trans aL57
    have aL37 := al3.trans aL47
    have aL27 := al2.trans aL37
    have aL17 := al1.trans aL27
    refine same_call (d := dueAll nz gs n) (by omega) (.lst (aL17.k _ _ aT) (Dats.mono aL17.k aDT))
      (.lst ah7 (.cons (.lst (aL37.k _ _ ah2) (.cons (.str _) (.cons (.tup (aL27.k _ _ ahm) (Dats.ints _)) .nil))) (.cons (.lst (aL47.k _ _ ah3) (.cons (.str _) (.cons (.lst ((Wz.trans aL17).k _ _ hD4) (Dats.ints _)) .nil)))
        (.cons (.lst (aL57.k _ _ ah4) (.cons (.str _) (.cons (.int _) .nil))) (.cons (.lst (aL67.k _ _ ah5) (.cons (.str _) (.cons (.int _) .nil))) (.cons (.lst (al7.k _ _ ah6) (.cons (.str _) (.cons (.int _) .nil))) .nil)))))) (dueAll_keys hmin (by omega)) dueAll_dep fun au8 al8 ac8 => ?_
    walk_at "st"
    -- what is told is the law's to change
    have lw58 := lz.trans (aL17.trans al8)
    have tg8 : au8.h tg = some (.lst txs) := au8.ext _ _ ((aL17.trans al8).k _ _ (zs _ _ t3))
    have tq8 : au8.h tq = some (.lst [.str "told", .ref tg]) := au8.ext _ _ ((aL17.trans al8).k _ _ (zs _ _ t2))
    have tp8 : au8.h tp = some (.lst acc) := au8.ext _ _ ((aL17.trans al8).k _ _ aT)
    refine ix_l (.inl (.inl tp8)) (v := .ref tq) (at_i (by decide) t1) ?_
    walk_at "st"
    refine ix_s (SqS.l tq8) (v := .ref tg) (at_i (by decide) (by rfl)) ?_
    refine ⟨isList tg8, ?_⟩
    walk_at "st"
    refine append_w tg8 (by omega) ?_
    obtain ⟨y, yh, yk, yc, yb, ly⟩ := back_w lw58
    have nt5 : w5.k tg = none := k_none t4
    obtain ⟨y2, y2h, y2k, y2c, ly2, _, _, _⟩ := put_w (o' := .lst (txs ++ [.str "more"])) ly (by rw [yh]; exact tg8) (by rw [yk]; exact nt5) t4
    rw [← yh, ← y2h]
    -- once more
    have W6 := W5.trans ly2
    have cy : y2.c ≤ w.c + 1 := by omega
    walk_at "st"
    refine lst_k (by show 5 ≤ 1000000; decide) fun pw2 w6 l6 c6 _ h6 => ?_
    have hfive2 : w6.k pw2 = some (.lst (five.map fun k => V.str k.str)) := h6
    have W46 := (l5.trans ly2).trans l6
    refine lc_lst (.inl (.inl hfive2)) ⟨40, TI K w6 (toldD nz gs n), ⟨.nil, fun h => absurd h (by decide)⟩, by show 5 ≤ 1000000; decide, fun i x acc v hi hx lv cv hI Qy Qn qy qn => ?_, fun tp acc v lv cv np htp ktp hI => ?_⟩
    · have hx : (five.map fun k => V.str k.str)[i]? = some x := hx
      rw [List.getElem?_map] at hx
      obtain ⟨k, hk, rfl⟩ := Option.map_eq_some_iff.mp hx
      have hi : i < 5 := hi
      refine x_gn ⟨rfl, x_yes ?_⟩
      walk_at "st"
      have Wv := (W4.trans W46).trans lv
      refine ⟨(b, a, ns.map V.int), v, rfl, by show v.c + (ns.map V.int).length ≤ MAXC; rw [List.length_map]; omega, ⟨rfl, Wv.b.trans hb, .inl (.inl (.inl (Wv.k _ _ ha))), by show (ns.map V.int).length ≤ 1000; rw [List.length_map]; omega⟩, ?_⟩
      rintro r u lu cu ⟨pm, ys, rfl, nm, hm', km, perm⟩
      have cu : u.c ≤ v.c + (ns.map V.int).length := cu
      rw [List.length_map] at cu
      obtain ⟨ns', rfl, pn⟩ := perm_ints perm
      obtain ⟨z, zh, lz, zc, zk, zs⟩ := frz_w2 lu nm hm' km
      rw [← zh]
      have G' := G.perm pn.symm
      walk_at "st"
      refine ⟨(k, .ref pm, .list (ns'.map .int), .non, .none, !bn), z, rfl, by show z.c + 0 ≤ MAXC; omega, ⟨rfl, .lst zk (Dats.ints ns'), .non, fun _ => by show (ns'.map PyData.int).length ≤ 60; rw [List.length_map, pn.length_eq]; omega⟩, ?_⟩
      intro r u2 lu2 cu2 hans
      have cu2 : u2.c ≤ z.c + 0 := cu2
      exact qy _ u2 (lz.trans lu2) (by omega) (ti_step hk hI lz lu2 (lv.trans lz) hans (gens_yes rfl rfl G' (by rw [pn.length_eq]; omega)) (fun ns2 e => by
        have e : ns'.map PyData.int = ns2.map PyData.int := e
        rw [← ints_inj e]
        exact pn) AZ GO Fr)
    obtain ⟨J1, _⟩ := hI
    obtain ⟨z2, zh, lz2, zc2, zk, zs⟩ := frz_w2 lv np htp ktp
    have cv : v.c ≤ w6.c + 5 * 40 := cv
    rw [← zh]
    have Wz2 := W46.trans lz2
    have bT := zk
    have bDT : Dats K z2.k acc (five.map (toldD nz gs n)) := by
      have := J1.mono zs
      rwa [List.length_map, List.take_length] at this
    walk_at "st"
    refine ⟨(a, ns), z2, rfl, by show z2.c + 0 ≤ MAXC; omega, ⟨rfl, .inl (.inl (Wz2.k _ _ ha4)), G, by show ns.length ≤ 60; omega⟩, ?_⟩
    rintro r bu1 bl1 bc1 ⟨bpm, bnz, rfl, bA, bhm⟩
    have bc1 : bu1.c ≤ z2.c + 0 := bc1
    rw [bA.uniq AZ] at bhm
    have bW1 := Wz2.trans bl1
    walk_at "st"
    refine lst_k (by show 2 ≤ 1000000; decide) fun bp2 bu2 bl2 bc2 _ bh2 => ?_
    walk_at "st"
    refine lst_k (by show 2 ≤ 1000000; decide) fun bp3 bu3 bl3 bc3 _ bh3 => ?_
    walk_at "st"
    refine len_s (SqS.l (bu3.ext _ _ (((bW1.trans bl2).trans bl3).k _ _ hD4))) ?_
    rw [List.length_map]
    walk_at "st"
    refine lst_k (by show 2 ≤ 1000000; decide) fun bp4 bu4 bl4 bc4 _ bh4 => ?_
    walk_at "st"
    refine lst_k (by show 2 ≤ 1000000; decide) fun bp5 bu5 bl5 bc5 _ bh5 => ?_
    walk_at "st"
    refine lst_k (by show 2 ≤ 1000000; decide) fun bp6 bu6 bl6 bc6 _ bh6 => ?_
    walk_at "st"
    refine lst_k (by show 5 ≤ 1000000; decide) fun bp7 bu7 bl7 bc7 _ bh7 => ?_
    walk_at "st"
    have bL67 := bl6.trans bl7
    have bL57 := bl5.trans bL67
    have bL47 := bl4.trans bL57
    have bL37 := bl3.trans bL47
    have bL27 := bl2.trans bL37
    have bL17 := bl1.trans bL27
    refine same_call (d := dueAll nz gs n) (by omega) (.lst (bL17.k _ _ bT) (Dats.mono bL17.k bDT))
      (.lst bh7 (.cons (.lst (bL37.k _ _ bh2) (.cons (.str _) (.cons (.tup (bL27.k _ _ bhm) (Dats.ints _)) .nil))) (.cons (.lst (bL47.k _ _ bh3) (.cons (.str _) (.cons (.lst ((Wz2.trans bL17).k _ _ hD4) (Dats.ints _)) .nil)))
        (.cons (.lst (bL57.k _ _ bh4) (.cons (.str _) (.cons (.int _) .nil))) (.cons (.lst (bL67.k _ _ bh5) (.cons (.str _) (.cons (.int _) .nil))) (.cons (.lst (bl7.k _ _ bh6) (.cons (.str _) (.cons (.int _) .nil))) .nil)))))) (dueAll_keys hmin (by omega)) dueAll_dep fun bu8 bl8 bc8 => ?_
    walk_at "st"
    -- the numbers
    have W8 := Wz2.trans (bL17.trans bl8)
    have c8 : bu8.c ≤ w.c + 201 := by omega
    refine max2_i ?_
    walk_at "st"
    have hl8 : bu8.k pl = some (.lst ((tab m fn).map V.int)) := (l4.trans W8).k _ _ hl
    refine ⟨(b, m, pl, fn, max n 0), bu8, rfl, by show bu8.c + 30 ≤ MAXC; omega, ⟨rfl, (W4.trans W8).b.trans hb, hl8, hm1.1, hm1.2, by show 0 ≤ max n 0; omega, by show max n 0 ≤ 1000000; omega⟩, ?_⟩
    rintro r w9 l9 c9 ⟨pn, xs, rfl, hxs, x0⟩
    have c9 : w9.c ≤ bu8.c + 30 := c9
    have W9 := W8.trans l9
    walk_at "st"
    refine for_lst (.inl (.inl (w9.ext _ _ hxs))) ⟨fun i σ v => ∃ b' s10, σ = [some (.ref b), some (.ref a), some (.bl b'), some (.int m), some (.ref pD), some (.ref pl), some (.int n), some (.ref gv), some (.ref tp), none, s10] ∧ Le w9 v ∧ v.c ≤ w9.c, ⟨bn, none, rfl, Le.refl _, Nat.le_refl _⟩, ?_, ?_, ?_⟩
    · rintro i σ v hi ⟨_, _, _, lv, _⟩
      exact .inl (.inl (v.ext _ _ (lv.k _ _ hxs)))
    · rintro i x σ v hi hx ⟨b', s10, rfl, lv, cv⟩
      obtain ⟨x, hxi, rfl⟩ := c_are_generators.map_get hx
      have hx0 := x0 x (List.mem_of_getElem? hxi)
      have Wv := W9.trans lv
      walk_at "st"
      refine ⟨(.contains, .ref gv, dG, .int x, .int x, b'), v, rfl, by show v.c + 0 ≤ MAXC; omega, ⟨rfl, hG.mono Wv.k, .int x, fun _ => lG⟩, ?_⟩
      rintro r u lu cu ⟨pq, rfl, hans⟩
      have cu : u.c ≤ v.c + 0 := cu
      obtain ⟨ns', val, hns, hq, x', hx', _, m', f', A', rfl⟩ : ∃ (ns' : List Int) (val : V), itemsD dG = ns'.map PyData.int ∧ u.k pq = some (.lst [.str "told", val]) ∧ ∃ x', PyData.int x = .int x' ∧ 0 ≤ x' ∧ ∃ m f, Apy ns' m f ∧ val = .bl (decide (f (x' % m) ≤ x')) := by
        rcases hans with ⟨_, _, ns', val, h1, _, h3, h4⟩ | ⟨e, _⟩ | ⟨_, _, e, _⟩
        · exact ⟨ns', val, h1, h3, h4⟩
        · have e : gensOK dG = false := e
          rw [gG] at e; cases e
        · have e : isCt (.int x) = false := e
          have : isCt (.int x) = true := decide_eq_true hx0
          rw [this] at e; cases e
      cases hx'
      have en : ns' = ns := by
        rw [eG] at hns
        exact (ints_inj hns).symm
      subst en
      obtain ⟨em, _⟩ := A'.uniq AP
      subst em
      have r0 := Int.emod_nonneg x (show m' ≠ 0 by omega)
      have r1 := Int.emod_lt_of_pos x (show 0 < m' by omega)
      have ef := A'.L.same AP.L (x % m') r0 r1
      rw [ef] at hq
      have Wu := Wv.trans lu
      walk_at "st"
      refine int_i ?_
      walk_at "st"
      refine x_fmod (by omega) ?_
      rw [Int.fmod_eq_emod_of_nonneg _ (by omega)]
      refine ix_l (.inl (.inl (u.ext _ _ (((l9.trans lv).trans lu).k _ _ hl8)))) (tab_at r0 r1) ?_
      walk_at "st"
      refine lst_k (by show 2 ≤ 1000000; decide) fun p3 u3 m3 d3 _ e3 => ?_
      walk_at "st"
      refine same_call (d := .list [.str "told", .bool (decide (fn (x % m') ≤ x))]) (by omega) (.lst (m3.k _ _ hq) (.cons (.str _) (.cons (.bl _) .nil))) (.lst e3 (.cons (.str _) (.cons (.bl _) .nil))) ?_ ?_ fun u4 m4 d4 => ?_
      · rw [keys_list, keysAll_cons, keysAll_cons, keysAll_nil, keys_str, keys_bool]
        rfl
      · rw [dep_list, depAll_cons, depAll_cons, depAll_nil, dep_str, dep_bool]
        decide
      walk_at "st"
      exact ⟨u4, rfl, _, _, rfl, ((lv.trans lu).trans m3).trans m4, by omega⟩
    · rintro σ v ⟨b', s10, rfl, lv, cv⟩
      have Wv := W9.trans lv
      walk_at "st"
      refine len_s ((sG.mono Wv.k).mono v.ext) ?_
      walk_at "st"
      refine len_s (SqS.l (v.ext _ _ ((W4.trans Wv).k _ _ ha))) ?_
      walk_at "st"
      exact q _ v (W4.trans Wv) (by omega) (by rw [decide_eq_true rfl])
end

end Sb
set_option Elab.async false
set_option linter.all false
set_option maxRecDepth 100000
set_option maxHeartbeats 4000000
namespace Sb
open PySem PySem.Spec PyProof.Rows L2
open C8 (fnScope_by)
local macro_rules | `(tactic| walk_at "st") => `(tactic| repeat (first
  | ((with_reducible refine' x_var ?hvar ?_); (case hvar => rfl)) | with_reducible refine x_c ?_ | with_reducible refine x_op ?_ | with_reducible refine x_un ?_ | with_reducible refine x_test ?_ | with_reducible refine x_tb ?_
  | with_reducible refine x_and ?_ | with_reducible refine x_or ?_ | with_reducible refine x_not ?_ | with_reducible refine x_andV ?_ | with_reducible refine x_orV ?_ | with_reducible refine x_notV ?_ | with_reducible refine x_if ?_
  | with_reducible refine x_nil ?_ | with_reducible refine x_cons ?_ | with_reducible refine x_cb ?_ | with_reducible refine x_call ?_ | with_reducible refine x_callS ?_ | with_reducible refine x_callKS ?_ | with_reducible refine x_chain ?_ | with_reducible refine x_sl ?_
  | with_reducible refine x_part ?_ | with_reducible refine x_nopart ?_ | with_reducible refine x_seq ?_ | with_reducible refine x_asg ?_ | with_reducible refine x_gn ?_ | with_reducible refine x_gsub ?_ | with_reducible refine x_par ?_ | with_reducible refine x_par3 ?_
  | with_reducible refine x_ret ?_ | with_reducible refine x_drop ?_ | with_reducible refine x_ifS ?_ | with_reducible refine x_next ?_ | with_reducible refine x_I0 ?_ | with_reducible refine x_U ?_ | with_reducible refine x_eqI ?_
  | with_reducible refine x_eqS ?_ | with_reducible refine x_bm ?_ | with_reducible refine x_tup ?_ | with_reducible refine x_lst ?_ | with_reducible refine x_lstRg ?_ | with_reducible refine x_rg1 ?_ | with_reducible refine x_rg2 ?_
  | with_reducible refine x_forL ?_ | with_reducible refine x_forS ?_ | with_reducible refine x_forT ?_ | with_reducible refine x_forR1 ?_ | with_reducible refine x_forR2 ?_ | with_reducible refine x_lcL ?_ | with_reducible refine x_lcS ?_ | with_reducible refine x_lcR1 ?_ | with_reducible refine x_lcR2 ?_
  | with_reducible refine x_yes ?_ | with_reducible refine x_mkO ?_ | with_reducible refine x_dget ?_ | with_reducible refine x_din ?_ | with_reducible refine x_dnotin ?_ | with_reducible refine x_dput ?_ | with_reducible refine x_forR3 ?_ | with_reducible refine x_lcR3 ?_ | with_reducible refine x_lcD ?_ | with_reducible refine x_lc2R ?_
  | with_reducible refine iteF ?_ | with_reducible refine iteT ?_ | with_reducible refine iteNF ?_ | with_reducible refine iteNT ?_ | with_reducible refine ⟨_, rfl, ?_⟩ | with_reducible refine ⟨_, _, rfl, ?_⟩ | with_reducible refine ⟨_, _, rfl, rfl, ?_⟩))

/-! ### the law -/
/-- a box is taken up -/
theorem box_in {u : Wo} {p : Addr} {o : HO} (hb : u.b = none) (hk : u.k p = none) (hB : BoxAt u.h p 0) : ∃ v : Wo, v.h = u.h ∧ v.k = u.k ∧ v.b = some p ∧ v.c = 0 :=
  ⟨{ k := u.k, h := u.h, b := some p, c := 0, ext := u.ext, bx := fun a e => by
      cases e
      exact ⟨hk, hB⟩ }, rfl, rfl, rfl, rfl⟩
/-- .. and laid down -/
theorem box_out {w u v x : Wo} {p : Addr} (hw : w.b = none) (hc : w.c = 0) (l : Le w u) (np : w.h p = none) (eh : v.h = u.h) (ek : v.k = u.k) (eb : v.b = some p) (m : Le v x) : ∃ z : Wo, z.h = x.h ∧ z.k = x.k ∧ z.b = none ∧ z.c = 0 ∧ Le w z :=
  ⟨{ k := x.k, h := x.h, b := none, c := 0, ext := x.ext, bx := fun a e => by cases e }, rfl, rfl, rfl, rfl,
    ⟨hw.symm, by
      have h1 := l.k
      have h2 := m.k
      rw [ek] at h2
      exact h1.trans h2, (fun a o nb h => by
      have h1 := l.h a o nb h
      refine m.h a o (fun e => ?_) (by rw [eh]; exact h1)
      rw [eb] at e
      cases e
      rw [np] at h
      cases h), (fun a o h n => by
      obtain ⟨o', h1⟩ := l.there h
      exact m.own a o' (by rw [eh]; exact h1) (by rw [ek]; exact l.own a o h n)), by show w.c ≤ 0; omega⟩⟩
theorem and_eq0 {σ : L2.St} {H : Hp} {Q : VK} {i : Nat} {n : Int} {c : Bool} (q : ∀ gr, Q (.bl gr) H) (hi : σ[i]? = some (some (.int n)) := by rfl) : if c = true then tOp rEq (tVar i) (tC (.int 0)) σ H Q else Q (.bl false) H := by
  cases c with
  | true =>
    refine iteT ?_
    exact ⟨.int n, hi, x_eqI (q _)⟩
  | false => exact iteF (q _)
section
variable {P : Program} {w0 : World} {K : PySem.W.Frag} {mg : Str → Option Value} {base : Heap}
abbrev s_law : Stmt := topS 42
theorem sc_law : FnScope ["script", "k", "box", "by_name", "great", "generators", "low"] ["script"] (defScope s_law) := fnScope_by (by decide +kernel)
theorem bi_law : BindsBy "law" s_law ["script"] := fun _ _ _ _ _ _ us hl => match us, hl with | [_], _ => rfl
abbrev sp_law (K : PySem.W.Frag) : Sp := SpG (γ := Addr × List Int) (fun _ => 0) (fun g w vs => vs = [.ref g.1] ∧ SqL K w.k g.1 (g.2.map V.int) ∧ w.b = none ∧ w.c = 0 ∧ g.2.length ≤ 63) (fun g w r u => r = .bl true)
theorem c_law (D : Df K mg "law" s_law) (T : Tx mg) (c__law_cell : Cal P w0 K mg base CX0 1 "_law_cell" ["script", "k"] (sp_law_cell K)) (c__law_box : Cal P w0 K mg base CX0 1 "_law_box" ["great"] sp_law_box) (c__law_take : Cal P w0 K mg base CX0 1 "_law_take" ["box", "many"] sp_law_take)
    (c__law_mixed : Cal P w0 K mg base CX0 2 "_law_mixed" ["box", "items"] (sp_law_mixed K)) (c__law_generators : Cal P w0 K mg base CX0 3 "_law_generators" ["box", "most"] sp_law_generators) (c__law_right : Cal P w0 K mg base CX0 7 "_law_right" ["box", "generators", "by_name"] (sp_law_right K))
    (c__law_refused_right : Cal P w0 K mg base CX0 7 "_law_refused_right" ["box", "generators", "by_name"] (sp_law_refused_right K)) : Cal P w0 K mg base CX0 8 "law" ["script"] (sp_law K) := by
  have sc := sc_law
  refine D.cal sc bi_law (fun g w vs h => by rw [h.1]; rfl) (fun qual f cdv A outer s E g w vs Q hr hc hp q => ?_)
  obtain ⟨a, ns⟩ := g
  dsimp only at hp hc q
  obtain ⟨rfl, ha, hb, hc0, hlen⟩ := hp
  refine ⟨_, (pss_cons (ps_for PassesOwn.never rfl (pi_range1 (by rfl) T.m_range (pa_cons (pe_callB (cr_max2 rfl) (by rfl) T.m_max boot_max (pa_cons (pe_int) (pa_cons (pe_callB (cr_min2 rfl) (by rfl) T.m_min boot_min (pa_cons (pe_int) (pa_cons (pe_callB (show CallR _ _ (rLen K) from cr_len) (by rfl) T.m_len boot_len (pa_cons (pv 0) pa_nil)) pa_nil))) pa_nil))) pa_nil)) (pg_name (i := 1) sc.nd rfl (.inl rfl))
      (pss_cons (ps_set (i := 2) sc.nd rfl (.inl rfl) (pe_cc c__law_box hr (by first | decide | exact Nat.le_refl _) rfl (pa_cons (pe_cc c__law_cell hr (by first | decide | exact Nat.le_refl _) rfl (pa_cons (pv 0) (pa_cons (pv 1) pa_nil))) pa_nil)))
      (pss_cons (ps_par (i := 3) (j := 4) rfl sc.nd rfl rfl (by decide) rfl rfl (pa_cons (pe_cmpR op_eq (pe_cc c__law_take hr (by first | decide | exact Nat.le_refl _) rfl (pa_cons (pv 2) (pa_cons (pe_int) pa_nil))) (pe_int) (nomark _)) (pa_cons (pe_and (pe_cmpR op_eq (pe_cc c__law_take hr (by first | decide | exact Nat.le_refl _) rfl (pa_cons (pv 2) (pa_cons (pe_int) pa_nil))) (pe_int) (nomark _)) (pe_one (pe_cmpR op_eq (pv 1) (pe_int) (nomark _)))) pa_nil)) (by rfl))
      (pss_cons (ps_set (i := 5) sc.nd rfl (.inl rfl) (pe_cc c__law_generators hr (by first | decide | exact Nat.le_refl _) rfl (pa_cons (pv 2) (pa_cons (pe_int) pa_nil))))
      (Evl.pss_cut (ps_if (pt_val (pv 4))
        (pss_cons (ps_set (i := 6) sc.nd rfl (.inl rfl) (pe_op op_add (pe_int) (pe_cc c__law_take hr (by first | decide | exact Nat.le_refl _) rfl (pa_cons (pv 2) (pa_cons (pe_int) pa_nil)))))
        (pss_one (ps_set (i := 5) sc.nd rfl (.inl rfl) (pe_cc c__law_mixed hr (by first | decide | exact Nat.le_refl _) rfl (pa_cons (pv 2) (pa_cons (pe_lst (pa_cons (pv 6) (pa_cons (pe_op op_add (pv 6) (pe_int)) (pa_cons (pe_int) (pa_cons (pe_op op_add (pe_op op_add (pv 6) (pe_int)) (pe_cc c__law_take hr (by first | decide | exact Nat.le_refl _) rfl (pa_cons (pv 2) (pa_cons (pe_int) pa_nil)))) pa_nil))))) pa_nil))))))
        pss_nil)
      (pss_one (ps_if (PW.pt (pw_or (pt_not (pt_val (pe_cc c__law_right hr (by first | decide | exact Nat.le_refl _) rfl (pa_cons (pv 2) (pa_cons (pv 5) (pa_cons (pv 3) pa_nil)))))) (pw_or1 (pt_not (pt_val (pe_cc c__law_refused_right hr (by first | decide | exact Nat.le_refl _) rfl (pa_cons (pv 2) (pa_cons (pv 5) (pa_cons (pe_not (pv 3)) pa_nil)))))))))
        (pss_one (ps_ret (pe_bl)))
        pss_nil)))))))
    (pss_one (ps_ret (pe_bl)))), ?_⟩
  walk_at "st"
  refine len_s (.inl (seq_l w.ext ha)) ?_
  rw [List.length_map]
  walk_at "st"
  refine min2_i ?_
  walk_at "st"
  refine max2_i ?_
  walk_at "st"
  refine for_r1 (by omega) (by omega) ⟨fun i σ v => ∃ s1 s2 s3 s4 s5 s6, σ = [some (.ref a), s1, s2, s3, s4, s5, s6] ∧ Le w v ∧ v.c = 0, ⟨none, none, none, none, none, none, rfl, Le.refl _, hc0⟩, fun _ _ _ _ _ => trivial, ?_, ?_⟩
  · rintro k x σ v hk rfl ⟨s1, s2, s3, s4, s5, s6, rfl, lv, cv⟩
    have hk4 : k < 4 := by omega
    rw [show (0 : Int) + (k : Int) = k by omega]
    walk_at "st"
    refine ⟨(a, ns, k), v, rfl, by show v.c + 0 ≤ MAXC; omega, ⟨rfl, seq_l lv.k ha, by show k ≤ 1000; omega⟩, ?_⟩
    rintro r u lu cu ⟨i, rfl⟩
    have cu : u.c ≤ v.c + 0 := cu
    walk_at "st"
    refine ⟨i, u, rfl, by show u.c + 0 ≤ MAXC; omega, rfl, ?_⟩
    rintro r u2 l2 c2 ⟨p, d, t, g, rfl, np, kp, hp, d0, t0, t1⟩
    have c2 : u2.c ≤ u.c + 0 := c2
    have lw2 := (lv.trans lu).trans l2
    have npw : w.h p = none := (lv.trans lu).fresh np
    obtain ⟨x, xh, xk, xb, xc⟩ := box_in (o := .lst []) (by rw [lw2.b, hb]) kp (⟨d, t, 0, g, hp, d0, t0, t1, Int.le_refl _, Int.le_refl _⟩ : BoxAt u2.h p 0)
    rw [← xh]
    have take : ∀ (y : Wo) (m : Int) (Q : VK), Le x y → y.c + 1 ≤ 1000 → 1 ≤ m → m < 1073741824 → (∀ i u, Le y u → u.c ≤ y.c + 1 → 0 ≤ i → i < m → Q (.int i) u.h) → sp_law_take [.ref p, .int m] y.h Q E0 := fun y m Q l c m0 m1 k =>
      ⟨(p, m), y, rfl, by show y.c + 1 ≤ MAXC; unfold MAXC; omega, ⟨rfl, l.b.trans xb, m0, m1⟩, fun r u lu cu ⟨i, e, i0, i1⟩ => by
        subst e
        exact k i u lu cu i0 i1⟩
    walk_at "st"
    refine take x 2 _ (Le.refl _) (by omega) (by decide) (by decide) fun b1 y1 m1 e1 _ _ => ?_
    walk_at "st"
    refine take y1 8 _ m1 (by omega) (by decide) (by decide) fun b2 y2 m2 e2 _ _ => ?_
    have M2 := m1.trans m2
    walk_at "st"
    refine and_eq0 fun gr => ?_
    walk_at "st"
    refine ⟨p, y2, rfl, by show y2.c + 60 ≤ MAXC; unfold MAXC; omega, ⟨rfl, M2.b.trans xb⟩, ?_⟩
    rintro r y3 m3 e3 ⟨pg, gs, rfl, ng, hg, kg, G, gl⟩
    have e3 : y3.c ≤ y2.c + 60 := e3
    have M3 := M2.trans m3
    have ngx : x.h pg = none := M2.fresh ng
    walk_at "st"
    refine ⟨At fun σ y => ∃ pg gs s6, σ = [some (.ref a), some (.int k), some (.ref p), some (.bl (decide (b1 = 0))), some (.bl gr), some (.ref pg), s6] ∧ Le x y ∧ y.c ≤ 100 ∧ x.h pg = none ∧ y.h pg = some (.lst (gs.map V.int)) ∧ y.k pg = none ∧ Gn gs ∧ gs.length ≤ 40, ?_, ?_⟩
    · walk_at "st"
      cases gr with
      | false =>
        walk_at "st"
        exact ⟨y3, rfl, pg, gs, _, rfl, M3, by omega, ngx, hg, kg, G, gl⟩
      | true =>
        walk_at "st"
        refine take y3 150 _ M3 (by omega) (by decide) (by decide) fun lo y4 m4 e4 lo0 lo1 => ?_
        walk_at "st"
        refine take y4 20 _ (M3.trans m4) (by omega) (by decide) (by decide) fun t2 y5 m5 e5 t20 t21 => ?_
        walk_at "st"
        refine lst_k (by show 4 ≤ 1000000; decide) fun p6 y6 m6 e6 _ h6 => ?_
        have M6 := (M3.trans m4).trans (m5.trans m6)
        walk_at "st"
        refine ⟨(p, p6, [20 + lo, 20 + lo + 1, 200, 20 + lo + 2 + t2].map V.int), y6, rfl, by show y6.c + 4 ≤ MAXC; unfold MAXC; omega, ⟨rfl, M6.b.trans xb, .inl (.inl (.inl h6)), by show 4 ≤ 1000; decide⟩, ?_⟩
        rintro r y7 m7 e7 ⟨p7, ys, rfl, n7, h7, k7, perm⟩
        have e7 : y7.c ≤ y6.c + 4 := e7
        obtain ⟨gs', rfl, pn⟩ := perm_ints perm
        have G' : Gn [20 + lo, 20 + lo + 1, 200, 20 + lo + 2 + t2] := ⟨fun x hx => by
          simp only [List.mem_cons, List.not_mem_nil, or_false] at hx
          omega, by simp, fun e he hall => by
          have d0 := hall (20 + lo) (by simp)
          have d1 := hall (20 + lo + 1) (by simp)
          have d2 := Int.dvd_sub d1 d0
          rw [show 20 + lo + 1 - (20 + lo) = 1 by omega] at d2
          have := Int.le_of_dvd (by decide) d2
          omega⟩
        walk_at "st"
        exact ⟨y7, rfl, p7, gs', _, rfl, M6.trans m7, by omega, M6.fresh n7, h7, k7, G'.perm pn.symm, by rw [pn.length_eq]; show 4 ≤ 40; decide⟩
    · rintro σ _ ⟨y, rfl, pg, gs, s6, rfl, M, cy, ngx, hg, kg, G, gl⟩
      obtain ⟨z, zh, lz, zc, zk, zs⟩ := frz_w2 M ngx hg kg
      rw [← zh]
      walk_at "st"
      refine ⟨(p, pg, gs, decide (b1 = 0)), z, rfl, by show z.c + 300 ≤ MAXC; unfold MAXC; omega, ⟨rfl, lz.b.trans xb, zk, G, gl⟩, fun r z1 n1 d1 e => ?_⟩
      have e : r = .bl true := e
      subst e
      have d1 : z1.c ≤ z.c + 300 := d1
      walk_at "st"
      refine ⟨(p, pg, gs, !decide (b1 = 0)), z1, rfl, by show z1.c + 40 ≤ MAXC; unfold MAXC; omega, ⟨rfl, (lz.trans n1).b.trans xb, n1.k _ _ zk, G, gl⟩, fun r z2 n2 d2 e => ?_⟩
      have e : r = .bl true := e
      subst e
      walk_at "st"
      obtain ⟨o, oh, ok, ob, oc, lo⟩ := box_out hb hc0 lw2 npw xh xk xb ((lz.trans n1).trans n2)
      rw [← oh]
      exact ⟨o, rfl, _, _, _, _, _, _, rfl, lo, oc⟩
  · rintro σ v ⟨s1, s2, s3, s4, s5, s6, rfl, lv, cv⟩
    walk_at "st"
    exact q _ v lv (by omega) rfl
end

end Sb
set_option Elab.async false
set_option linter.all false
set_option maxRecDepth 100000
set_option maxHeartbeats 4000000
namespace Sb
open PySem PySem.Spec PyProof.Rows L2
open C8 (fnScope_by)
local macro_rules | `(tactic| walk_at "st") => `(tactic| repeat (first
  | ((with_reducible refine' x_var ?hvar ?_); (case hvar => rfl)) | with_reducible refine x_c ?_ | with_reducible refine x_op ?_ | with_reducible refine x_un ?_ | with_reducible refine x_test ?_ | with_reducible refine x_tb ?_
  | with_reducible refine x_and ?_ | with_reducible refine x_or ?_ | with_reducible refine x_not ?_ | with_reducible refine x_andV ?_ | with_reducible refine x_orV ?_ | with_reducible refine x_notV ?_ | with_reducible refine x_if ?_
  | with_reducible refine x_nil ?_ | with_reducible refine x_cons ?_ | with_reducible refine x_cb ?_ | with_reducible refine x_call ?_ | with_reducible refine x_callS ?_ | with_reducible refine x_callKS ?_ | with_reducible refine x_chain ?_ | with_reducible refine x_sl ?_
  | with_reducible refine x_part ?_ | with_reducible refine x_nopart ?_ | with_reducible refine x_seq ?_ | with_reducible refine x_asg ?_ | with_reducible refine x_gn ?_ | with_reducible refine x_gsub ?_ | with_reducible refine x_par ?_ | with_reducible refine x_par3 ?_
  | with_reducible refine x_ret ?_ | with_reducible refine x_drop ?_ | with_reducible refine x_ifS ?_ | with_reducible refine x_next ?_ | with_reducible refine x_I0 ?_ | with_reducible refine x_U ?_ | with_reducible refine x_eqI ?_
  | with_reducible refine x_eqS ?_ | with_reducible refine x_bm ?_ | with_reducible refine x_tup ?_ | with_reducible refine x_lst ?_ | with_reducible refine x_lstRg ?_ | with_reducible refine x_rg1 ?_ | with_reducible refine x_rg2 ?_
  | with_reducible refine x_forL ?_ | with_reducible refine x_forS ?_ | with_reducible refine x_forT ?_ | with_reducible refine x_forR1 ?_ | with_reducible refine x_forR2 ?_ | with_reducible refine x_lcL ?_ | with_reducible refine x_lcS ?_ | with_reducible refine x_lcR1 ?_ | with_reducible refine x_lcR2 ?_
  | with_reducible refine x_yes ?_ | with_reducible refine x_mkO ?_ | with_reducible refine x_dget ?_ | with_reducible refine x_din ?_ | with_reducible refine x_dnotin ?_ | with_reducible refine x_dput ?_ | with_reducible refine x_forR3 ?_ | with_reducible refine x_lcR3 ?_ | with_reducible refine x_lcD ?_ | with_reducible refine x_lc2R ?_
  | with_reducible refine iteF ?_ | with_reducible refine iteT ?_ | with_reducible refine iteNF ?_ | with_reducible refine iteNT ?_ | with_reducible refine ⟨_, rfl, ?_⟩ | with_reducible refine ⟨_, _, rfl, ?_⟩ | with_reducible refine ⟨_, _, rfl, rfl, ?_⟩))

/-! ### the end -/
theorem df_mk {K : PySem.W.Frag} {h : Heap} {mg : Str → Option Value} (X : K.In h) (G : h.Ns mainGlobals mg) {x : Str} {st : Stmt} {f : Addr} {oc : Value} {od an : Option Addr} {osl : Array (Option Value)} {kV doc pm cdv ct : Value}
    (a : PySem.W.nsIn K mainGlobals x = some (some (.ref f))) (l : K.lookup f = some ⟨oc, od, .func (PySem.W.fnOf x x (defArgs st) (defBody st) (defScope st) .none kV doc pm an cdv ct), osl⟩)
    (c : PySem.W.codeIn K cdv x = true) (k : PySem.W.keepIn K (.ref f) = true) : Df K mg x st := ⟨f, _, fun_mk l c k, PySem.W.mg_of X G a⟩
/-- an own error of the text -/
structure ErF (K : PySem.W.Frag) (mg : Str → Option Value) (x fld qi : Str) (st : Stmt) (C : Addr) : Prop where
  oex : OexC K C
  xf : XfC K C
  m : mg x = some (.ref C)
  fld : PySem.W.findIn K (.ref C) fld = some none
  ini : ∃ (fI : Addr) (fd : FuncData), Fun K "__init__" qi st fI fd ∧ PySem.W.findIn K (.ref C) "__init__" = some (some (.ref fI)) ∧ PySem.W.typeIn K (.ref fI) = some (.type "function")
theorem er_mk {K : PySem.W.Frag} {h : Heap} {mg : Str → Option Value} (X : K.In h) (G : h.Ns mainGlobals mg) {x fld qi : Str} {st : Stmt} {C SE fI : Addr} {nm q : Str} {N : Addr} {bs : List Value} {sn : List Str} {sub : List Value} {ab : Bool} {col : Option Bool} {dd : Option Addr} {m0 m1 m2 m3 m5 : Option Value}
    {oc : Value} {od an : Option Addr} {osl : Array (Option Value)} {kV doc pm cdv ct : Value} (aC : PySem.W.nsIn K mainGlobals x = some (some (.ref C)))
    (xL : K.lookup C = some (excClassObj nm q C N bs [.ref SE, .type "ValueError", .type "Exception", .type "BaseException", .type "object"] true sn sub ab col dd m0 m1 m2 m3 m5 "ValueError.__new__"))
    (sa : PySem.W.findIn K (.ref C) "__setattr__" = some (some (.builtin "object.__setattr__"))) (ga : PySem.W.findIn K (.ref C) "__getattribute__" = some (some (.builtin "BaseException.__getattribute__"))) (gg : PySem.W.findIn K (.ref C) "__getattr__" = some none) (nb : PySem.W.findIn K (.ref C) fld = some none)
    (a1 : PySem.W.findIn K (.ref C) "__init__" = some (some (.ref fI))) (t1 : PySem.W.typeIn K (.ref fI) = some (.type "function"))
    (l1 : K.lookup fI = some ⟨oc, od, .func (PySem.W.fnOf "__init__" qi (defArgs st) (defBody st) (defScope st) .none kV doc pm an cdv ct), osl⟩) (c1 : PySem.W.codeIn K cdv qi = true) (k1 : PySem.W.keepIn K (.ref fI) = true)
    (kC : PySem.W.keepIn K (.ref C) = true) (eC : PySem.W.subIn K (.ref C) (.type "BaseException") = some true) (tC : PySem.W.typeIn K (.ref C) = some (.type "type")) (hC : PySem.W.hasDictIn K C = true) : ErF K mg x fld qi st C :=
  ⟨⟨⟨nm, q, N, bs, _, sn, sub, ab, col, dd, m0, m1, m2, m3, m5, xL, rfl⟩, sa, eC, tC, kC⟩, ⟨ga, gg, eC, hC⟩, PySem.W.mg_of X G aC, nb, fI, _, fun_mk l1 c1 k1, a1, t1⟩
theorem exm_of {K : PySem.W.Frag} {C c : Addr} {b : Bool} (h1 : PySem.W.subIn K (.ref c) (.type "BaseException") = some true) (h2 : PySem.W.isClsIn K c = true) (h3 : PySem.W.typeIn K (.ref c) = some (.type "type")) (h4 : PySem.W.subIn K (.ref C) (.ref c) = some b) : PySem.W.exmOne K (.ref C) (.ref c) = some b := by
  unfold PySem.W.exmOne PySem.W.kitCls
  have h2' : (PySem.W.clsIn K c).isSome = true := h2
  simp only [h1, h2', h3, h4]
  rfl
theorem tx_mk {K : PySem.W.Frag} {h : Heap} {mg : Str → Option Value} (X : K.In h) (G : h.Ns mainGlobals mg) {t : Tok} (B : Bi mg) (a : PySem.W.nsIn K mainGlobals "gcd" = some (some (.builtin "math.gcd"))) (c : PySem.W.nsIn K mainGlobals "MOST_GENERATORS" = some (some (.int 200 t))) : Tx mg :=
  ⟨B, PySem.W.mg_of X G a, _, PySem.W.mg_of X G c, t, rfl⟩
theorem se_mk {K : PySem.W.Frag} {h : Heap} {mg : Str → Option Value} (X : K.In h) (G : h.Ns mainGlobals mg) {x : Str} {SE : Addr} (a : PySem.W.nsIn K mainGlobals x = some (some (.ref SE))) (r : PySem.W.readsIn K SE (.type "type") = true)
    (s : PySem.W.specialIn K (.ref SE) "__getattribute__" = some (some (.builtin "type.__getattribute__"))) (f : PySem.W.findCls K (.ref SE) (.type "type") "__init__" = some (.val (.builtin "ValueError.__init__"))) : SEr K mg x := ⟨SE, PySem.W.mg_of X G a, ⟨r, s⟩, f⟩

theorem bi_mk {K : PySem.W.Frag} {h : Heap} {mg : Str → Option Value} (X : K.In h) (G : h.Ns mainGlobals mg) (z_abs : PySem.W.nsIn K mainGlobals "abs" = some none) (z_all : PySem.W.nsIn K mainGlobals "all" = some none) (z_any : PySem.W.nsIn K mainGlobals "any" = some none) (z_bool : PySem.W.nsIn K mainGlobals "bool" = some none) (z_dict : PySem.W.nsIn K mainGlobals "dict" = some none) (z_enumerate : PySem.W.nsIn K mainGlobals "enumerate" = some none) (z_int : PySem.W.nsIn K mainGlobals "int" = some none) (z_isinstance : PySem.W.nsIn K mainGlobals "isinstance" = some none) (z_len : PySem.W.nsIn K mainGlobals "len" = some none) (z_list : PySem.W.nsIn K mainGlobals "list" = some none) (z_max : PySem.W.nsIn K mainGlobals "max" = some none) (z_min : PySem.W.nsIn K mainGlobals "min" = some none) (z_range : PySem.W.nsIn K mainGlobals "range" = some none) (z_set : PySem.W.nsIn K mainGlobals "set" = some none) (z_sorted : PySem.W.nsIn K mainGlobals "sorted" = some none) (z_str : PySem.W.nsIn K mainGlobals "str" = some none) (z_sum : PySem.W.nsIn K mainGlobals "sum" = some none) (z_tuple : PySem.W.nsIn K mainGlobals "tuple" = some none) (z_zip : PySem.W.nsIn K mainGlobals "zip" = some none) : Bi mg := ⟨PySem.W.mg_none_of X G z_abs, PySem.W.mg_none_of X G z_all, PySem.W.mg_none_of X G z_any, PySem.W.mg_none_of X G z_bool, PySem.W.mg_none_of X G z_dict, PySem.W.mg_none_of X G z_enumerate, PySem.W.mg_none_of X G z_int, PySem.W.mg_none_of X G z_isinstance, PySem.W.mg_none_of X G z_len, PySem.W.mg_none_of X G z_list, PySem.W.mg_none_of X G z_max, PySem.W.mg_none_of X G z_min, PySem.W.mg_none_of X G z_range, PySem.W.mg_none_of X G z_set, PySem.W.mg_none_of X G z_sorted, PySem.W.mg_none_of X G z_str, PySem.W.mg_none_of X G z_sum, PySem.W.mg_none_of X G z_tuple, PySem.W.mg_none_of X G z_zip⟩
theorem law_end {P : Program} {w : World} {K : PySem.W.Frag} {mg : Str → Option Value} {fa CG CN : Addr} (hfa : mg "law" = some (.ref fa)) (T : Tx mg) (S : SEr K mg "SemigroupError")
    (EG : ErF K mg "InvalidGenerators" "given" "InvalidGenerators.__init__" s_ini_InvalidGenerators CG) (EN : ErF K mg "InvalidNumber" "given" "InvalidNumber.__init__" s_ini_InvalidNumber CN)
    (e_GG : PySem.W.exmOne K (.ref CG) (.ref CG) = some true) (e_NG : PySem.W.exmOne K (.ref CN) (.ref CG) = some false) (e_NN : PySem.W.exmOne K (.ref CN) (.ref CN) = some true)
    (D_is_integer : Df K mg "is_integer" s_is_integer)
    (D_is_within : Df K mg "is_within" s_is_within)
    (D_is_count : Df K mg "is_count" s_is_count)
    (D_is_list : Df K mg "is_list" s_is_list)
    (D_are_generators : Df K mg "are_generators" s_are_generators)
    (D_check_generators : Df K mg "check_generators" s_check_generators)
    (D_nearest : Df K mg "nearest" s_nearest)
    (D_least_members : Df K mg "least_members" s_least_members)
    (D_minimal_of : Df K mg "minimal_of" s_minimal_of)
    (D_minimal : Df K mg "minimal" s_minimal)
    (D_is_member : Df K mg "is_member" s_is_member)
    (D_contains : Df K mg "contains" s_contains)
    (D_gaps_of : Df K mg "gaps_of" s_gaps_of)
    (D_gaps : Df K mg "gaps" s_gaps)
    (D_genus : Df K mg "genus" s_genus)
    (D_frobenius_of : Df K mg "frobenius_of" s_frobenius_of)
    (D_frobenius : Df K mg "frobenius" s_frobenius)
    (D_conductor : Df K mg "conductor" s_conductor)
    (D__law_cell : Df K mg "_law_cell" s_law_cell)
    (D__law_box : Df K mg "_law_box" s_law_box)
    (D__law_take : Df K mg "_law_take" s_law_take)
    (D__law_mixed : Df K mg "_law_mixed" s_law_mixed)
    (D__law_same : Df K mg "_law_same" s_law_same)
    (D__law_divisor : Df K mg "_law_divisor" s_law_divisor)
    (D__law_generators : Df K mg "_law_generators" s_law_generators)
    (D__law_least : Df K mg "_law_least" s_law_least)
    (D__law_gaps : Df K mg "_law_gaps" s_law_gaps)
    (D__law_minimal : Df K mg "_law_minimal" s_law_minimal)
    (D__law_no_generators : Df K mg "_law_no_generators" s_law_no_generators)
    (D__law_asked : Df K mg "_law_asked" s_law_asked)
    (D__law_numbers : Df K mg "_law_numbers" s_law_numbers)
    (D__law_right : Df K mg "_law_right" s_law_right)
    (D__law_refused_right : Df K mg "_law_refused_right" s_law_refused_right)
    (D_law : Df K mg "law" s_law) :
    ∃ fd : FuncData, (∀ (s : Shared) (v : Value), BindsTo s fd ⟨[v], []⟩ [("script", v)]) ∧ ∀ base : Heap, K.In base → base.Ns mainGlobals mg → FnOk P w K mg base CX0 8 fa fd ["script"] (sp_law K) := by
  obtain ⟨f, fd, F, hm⟩ := D_law.ex
  rw [hfa] at hm
  cases hm
  obtain ⟨oc, od, osl, lk⟩ := fun_lk F
  refine ⟨fd, fun s v => ?_, fun base _ _ => ?_⟩
  · obtain ⟨oc, od, kV, doc, pm, an, cdv, ct, osl, rfl, _, _⟩ := F.ex
    exact .of_eq (bi_law _ _ _ _ _ _ [v] rfl)
  have XG : XcD P w K mg base "InvalidGenerators" CG "given" (SpIni CG "given") := xc_InvalidGenerators S EG.oex EG.xf EG.m EG.fld EG.ini
  have XN : XcD P w K mg base "InvalidNumber" CN "given" (SpIni CN "given") := xc_InvalidNumber S EN.oex EN.xf EN.m EN.fld EN.ini
  have c1 := c_is_integer (P := P) (w := w) (base := base) D_is_integer T.toBi
  have c2 := c_is_within D_is_within c1
  have c3 := c_is_count D_is_count c1
  have c4 := c_is_list (P := P) (w := w) (base := base) D_is_list T.toBi
  have c5 := c_are_generators D_are_generators T c4 c2
  have c6 := c_check_generators D_check_generators c5 XG
  have c7 := c_nearest (P := P) (w := w) (K := K) (base := base) D_nearest T
  have c8 := c_least_members D_least_members T c7
  have c9 := c_minimal_of (P := P) (wd := w) (base := base) D_minimal_of T
  have c10 := c_is_member D_is_member T c8
  have c11 := c_gaps_of D_gaps_of T c8
  have c12 := c_frobenius_of D_frobenius_of T c8
  have k1 := c_minimal D_minimal T c6 c9
  have k2 := c_gaps D_gaps T c6 c11
  have k3 := c_genus D_genus T c6 c11
  have k4 := c_frobenius D_frobenius T c6 c12
  have k5 := c_conductor D_conductor T c6 c12
  have k6 := c_contains D_contains T c6 c3 c10 XN
  have l1 := c_law_cell (P := P) (w := w) (base := base) D__law_cell T.toBi
  have l2 := c_law_box (P := P) (w := w) (K := K) (base := base) D__law_box T.toBi
  have l3 := c_law_take (P := P) (w := w) (K := K) (base := base) D__law_take T.toBi
  have l4 := c_law_mixed D__law_mixed T.toBi l3
  have l5 := c_law_same (P := P) (w := w) (base := base) D__law_same T.toBi 5
  have l6 := c_law_divisor (P := P) (wd := w) (K := K) (base := base) D__law_divisor T
  have l7 := c_law_generators D__law_generators T l3 l4 l6
  have l8 := c_law_least (P := P) (wd := w) (base := base) D__law_least T
  have l9 := c_law_gaps D__law_gaps T l8
  have l10 := c_law_minimal (P := P) (wd := w) (base := base) D__law_minimal T
  have l11 := c_law_no_generators D__law_no_generators T l4
  have l12 := c_law_asked D__law_asked T k6 k1 k2 k3 k4 k5 D_contains D_minimal D_gaps D_genus D_frobenius D_conductor XG XN e_GG e_NG e_NN
  have l13 := c_law_numbers D__law_numbers T l3
  have l14 := c_law_right D__law_right T l3 l4 l9 l8 l10 l13 l12 l5
  have l15 := c_law_refused_right D__law_refused_right T l4 l11 l12 l5
  obtain ⟨f', fd', F', hm', _, _, oc', od', osl', lk'⟩ := (c_law D_law T l1 l2 l3 l4 l7 l14 l15).ex
  rw [hfa] at hm'
  cases hm'
  rw [lk] at lk'
  cases lk'
  exact F'

end Sb
set_option Elab.async false
set_option linter.all false
set_option maxRecDepth 100000
open PySem PySem.W PyProof.Rows
set_option maxHeartbeats 0 in
theorem PySem.Challenge.cw_semigroupbench_k60_members_and_gaps_holds : PySem.Challenge.rw_semigroupbench_k60_members_and_gaps.Holds := by
  w_on; o_law; k_head; (case hw => w_witness2)
  k_fill
  refine L2.walk_ofK (l := PySem.Challenge.rw_semigroupbench_k60_members_and_gaps) (n := 63) (k := 8) (x := "script") (CX := L2.CX0) (sp := Sb.sp_law) rfl (by decide) rfl ⟨rfl, by decide, by decide⟩ (fun w h Y => PySem.W.kIn_of Y) ?F
    (fun K H a ns hl _ hS => ⟨(a, ns), ⟨H, H, none, 0, L2.Same.refl _, fun _ z => by cases z⟩, rfl, (by show (0 : Nat) + 0 ≤ 100000000; decide), ⟨rfl, hS, rfl, rfl, hl⟩, fun v u _ _ e => e⟩) (fun _ _ _ _ z => z)
  case F =>
    intro w mg fa h KX G hmg
    refine' Sb.law_end hmg ?T ?S ?EG ?EN ?g ?n ?m ?D0 ?D1 ?D2 ?D3 ?D4 ?D5 ?D6 ?D7 ?D8 ?D9 ?D10 ?D11 ?D12 ?D13 ?D14 ?D15 ?D16 ?D17 ?D18 ?D19 ?D20 ?D21 ?D22 ?D23 ?D24 ?D25 ?D26 ?D27 ?D28 ?D29 ?D30 ?D31 ?D32 ?D33
    (case T =>
      refine' Sb.tx_mk KX G ?B ?a1 ?a2
      (case B =>
        refine' Sb.bi_mk KX G ?z0 ?z1 ?z2 ?z3 ?z4 ?z5 ?z6 ?z7 ?z8 ?z9 ?z10 ?z11 ?z12 ?z13 ?z14 ?z15 ?z16 ?z17 ?z18
        (case z0 => k_is); (case z1 => k_is); (case z2 => k_is); (case z3 => k_is); (case z4 => k_is); (case z5 => k_is); (case z6 => k_is); (case z7 => k_is); (case z8 => k_is); (case z9 => k_is); (case z10 => k_is); (case z11 => k_is); (case z12 => k_is); (case z13 => k_is); (case z14 => k_is); (case z15 => k_is); (case z16 => k_is); (case z17 => k_is); (case z18 => k_is))
      (case a1 => k_is); (case a2 => k_is))
    (case S =>
      refine' Sb.se_mk KX G ?sa ?sr ?ss ?sf
      (case sa => k_is); (case sr => k_is); (case ss => k_is); (case sf => k_is))
    (case EG =>
      refine' Sb.er_mk KX G ?aC ?xL ?sa ?ga ?gg ?nb ?a1 ?t1 ?l1 ?c1 ?k1 ?kC ?eC ?tC ?hC
      (case aC => k_is); (case xL => k_is); (case sa => k_is); (case ga => k_is); (case gg => k_is); (case nb => k_is); (case a1 => k_is); (case t1 => k_is); (case l1 => k_is); (case c1 => k_is); (case k1 => k_is)
      (case kC => k_is); (case eC => k_is); (case tC => k_is); (case hC => k_is))
    (case EN =>
      refine' Sb.er_mk KX G ?aC ?xL ?sa ?ga ?gg ?nb ?a1 ?t1 ?l1 ?c1 ?k1 ?kC ?eC ?tC ?hC
      (case aC => k_is); (case xL => k_is); (case sa => k_is); (case ga => k_is); (case gg => k_is); (case nb => k_is); (case a1 => k_is); (case t1 => k_is); (case l1 => k_is); (case c1 => k_is); (case k1 => k_is)
      (case kC => k_is); (case eC => k_is); (case tC => k_is); (case hC => k_is))
    (case g =>
      refine' Sb.exm_of ?h1 ?h2 ?h3 ?h4
      (case h1 => k_is); (case h2 => k_is); (case h3 => k_is); (case h4 => first | rfl | k_is))
    (case n =>
      refine' Sb.exm_of ?h1 ?h2 ?h3 ?h4
      (case h1 => k_is); (case h2 => k_is); (case h3 => k_is); (case h4 => first | rfl | k_is))
    (case m =>
      refine' Sb.exm_of ?h1 ?h2 ?h3 ?h4
      (case h1 => k_is); (case h2 => k_is); (case h3 => k_is); (case h4 => first | rfl | k_is))
    (case D0 =>
      refine' Sb.df_mk KX G ?a ?l ?c ?k
      (case a => k_is); (case l => k_is); (case c => k_is); (case k => k_is))
    (case D1 =>
      refine' Sb.df_mk KX G ?a ?l ?c ?k
      (case a => k_is); (case l => k_is); (case c => k_is); (case k => k_is))
    (case D2 =>
      refine' Sb.df_mk KX G ?a ?l ?c ?k
      (case a => k_is); (case l => k_is); (case c => k_is); (case k => k_is))
    (case D3 =>
      refine' Sb.df_mk KX G ?a ?l ?c ?k
      (case a => k_is); (case l => k_is); (case c => k_is); (case k => k_is))
    (case D4 =>
      refine' Sb.df_mk KX G ?a ?l ?c ?k
      (case a => k_is); (case l => k_is); (case c => k_is); (case k => k_is))
    (case D5 =>
      refine' Sb.df_mk KX G ?a ?l ?c ?k
      (case a => k_is); (case l => k_is); (case c => k_is); (case k => k_is))
    (case D6 =>
      refine' Sb.df_mk KX G ?a ?l ?c ?k
      (case a => k_is); (case l => k_is); (case c => k_is); (case k => k_is))
    (case D7 =>
      refine' Sb.df_mk KX G ?a ?l ?c ?k
      (case a => k_is); (case l => k_is); (case c => k_is); (case k => k_is))
    (case D8 =>
      refine' Sb.df_mk KX G ?a ?l ?c ?k
      (case a => k_is); (case l => k_is); (case c => k_is); (case k => k_is))
    (case D9 =>
      refine' Sb.df_mk KX G ?a ?l ?c ?k
      (case a => k_is); (case l => k_is); (case c => k_is); (case k => k_is))
    (case D10 =>
      refine' Sb.df_mk KX G ?a ?l ?c ?k
      (case a => k_is); (case l => k_is); (case c => k_is); (case k => k_is))
    (case D11 =>
      refine' Sb.df_mk KX G ?a ?l ?c ?k
      (case a => k_is); (case l => k_is); (case c => k_is); (case k => k_is))
    (case D12 =>
      refine' Sb.df_mk KX G ?a ?l ?c ?k
      (case a => k_is); (case l => k_is); (case c => k_is); (case k => k_is))
    (case D13 =>
      refine' Sb.df_mk KX G ?a ?l ?c ?k
      (case a => k_is); (case l => k_is); (case c => k_is); (case k => k_is))
    (case D14 =>
      refine' Sb.df_mk KX G ?a ?l ?c ?k
      (case a => k_is); (case l => k_is); (case c => k_is); (case k => k_is))
    (case D15 =>
      refine' Sb.df_mk KX G ?a ?l ?c ?k
      (case a => k_is); (case l => k_is); (case c => k_is); (case k => k_is))
    (case D16 =>
      refine' Sb.df_mk KX G ?a ?l ?c ?k
      (case a => k_is); (case l => k_is); (case c => k_is); (case k => k_is))
    (case D17 =>
      refine' Sb.df_mk KX G ?a ?l ?c ?k
      (case a => k_is); (case l => k_is); (case c => k_is); (case k => k_is))
    (case D18 =>
      refine' Sb.df_mk KX G ?a ?l ?c ?k
      (case a => k_is); (case l => k_is); (case c => k_is); (case k => k_is))
    (case D19 =>
      refine' Sb.df_mk KX G ?a ?l ?c ?k
      (case a => k_is); (case l => k_is); (case c => k_is); (case k => k_is))
    (case D20 =>
      refine' Sb.df_mk KX G ?a ?l ?c ?k
      (case a => k_is); (case l => k_is); (case c => k_is); (case k => k_is))
    (case D21 =>
      refine' Sb.df_mk KX G ?a ?l ?c ?k
      (case a => k_is); (case l => k_is); (case c => k_is); (case k => k_is))
    (case D22 =>
      refine' Sb.df_mk KX G ?a ?l ?c ?k
      (case a => k_is); (case l => k_is); (case c => k_is); (case k => k_is))
    (case D23 =>
      refine' Sb.df_mk KX G ?a ?l ?c ?k
      (case a => k_is); (case l => k_is); (case c => k_is); (case k => k_is))
    (case D24 =>
      refine' Sb.df_mk KX G ?a ?l ?c ?k
      (case a => k_is); (case l => k_is); (case c => k_is); (case k => k_is))
    (case D25 =>
      refine' Sb.df_mk KX G ?a ?l ?c ?k
      (case a => k_is); (case l => k_is); (case c => k_is); (case k => k_is))
    (case D26 =>
      refine' Sb.df_mk KX G ?a ?l ?c ?k
      (case a => k_is); (case l => k_is); (case c => k_is); (case k => k_is))
    (case D27 =>
      refine' Sb.df_mk KX G ?a ?l ?c ?k
      (case a => k_is); (case l => k_is); (case c => k_is); (case k => k_is))
    (case D28 =>
      refine' Sb.df_mk KX G ?a ?l ?c ?k
      (case a => k_is); (case l => k_is); (case c => k_is); (case k => k_is))
    (case D29 =>
      refine' Sb.df_mk KX G ?a ?l ?c ?k
      (case a => k_is); (case l => k_is); (case c => k_is); (case k => k_is))
    (case D30 =>
      refine' Sb.df_mk KX G ?a ?l ?c ?k
      (case a => k_is); (case l => k_is); (case c => k_is); (case k => k_is))
    (case D31 =>
      refine' Sb.df_mk KX G ?a ?l ?c ?k
      (case a => k_is); (case l => k_is); (case c => k_is); (case k => k_is))
    (case D32 =>
      refine' Sb.df_mk KX G ?a ?l ?c ?k
      (case a => k_is); (case l => k_is); (case c => k_is); (case k => k_is))
    (case D33 =>
      refine' Sb.df_mk KX G ?a ?l ?c ?k
      (case a => k_is); (case l => k_is); (case c => k_is); (case k => k_is))
