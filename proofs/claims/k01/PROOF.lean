import PyProof.Rows.All
import Wide.All
import OpenK.AllK
import Wide.FinOn
import HandS.ForMost
import HandS.Walk
import HandS.Wide
import HandS.IsInst
import HandS.TupAny
import HandS.TupMul
import HandS.Style
import KE.GoesMore
import KE.GoesEnum
import HandS.Zip
import HandS.Deep
import HandS.SortOrd
import HandS.NamedTupSort
import HandS.TupLe
import KE.KSortTupAny
import PyProof.TwoTypesSub
import PyProof.FactsMod
import PyProof.NeKinds
import PyProof.CallStr
import PyProof.FitsInt
import HandS.NoneIn
import PySem.Challenge.RW_mouldkin_k01_rules_sizes_lines_told
set_option Elab.async false
set_option linter.all false
set_option maxRecDepth 100000
set_option maxHeartbeats 4000000
/-! A layer of our own: values whose tuples are trees (T), an abstract heap of lists, dicts and instances over them (Gp), readings that compute. -/
namespace Lw
open PySem PySem.Spec PyProof.Rows L2

inductive TyN where
  | int | bool | str | tuple | list | dict | set
abbrev TyN.name : TyN → String
  | .int => "int" | .bool => "bool" | .str => "str" | .tuple => "tuple" | .list => "list" | .dict => "dict" | .set => "set"
inductive T where
  | non | bl (b : Bool) | int (i : Int) | str (x : Str) | tup (ts : List T) | ref (a : Addr) | ty (n : TyN)
  /-- the script -/
  | scr (ns : List Int)

mutual
def Rp (K : PySem.W.Frag) (H : Hp) : T → V → Prop
  | .non, v => v = .non
  | .bl b, v => v = .bl b
  | .int i, v => v = .int i
  | .str x, v => v = .str x
  | .tup ts, v => ∃ a vs, v = .ref a ∧ H a = some (.tup vs) ∧ RpL K H ts vs
  | .ref a, v => v = .ref a
  | .ty n, v => v = .ty n.name
  | .scr ns, v => ∃ a, v = .ref a ∧ ((∃ o, H a = some (.frz o (.lst (ns.map V.int)))) ∨ ∃ (o : Obj) (its : Array Value) (n : Nat), K.lookup a = some o ∧ o.cls = .type "list" ∧ o.dict = none ∧ o.data = .seq its n ∧ its.size ≤ sizeLine ∧ Vals (ns.map V.int) its.toList)
def RpL (K : PySem.W.Frag) (H : Hp) : List T → List V → Prop
  | [], vs => vs = []
  | t :: ts, vs => ∃ v r, vs = v :: r ∧ Rp K H t v ∧ RpL K H ts r
end
/-- tuples and frozen lists are as they were -/
structure Tups (H H' : Hp) : Prop where
  t : ∀ b xs, H b = some (.tup xs) → H' b = some (.tup xs)
  f : ∀ b o xs, H b = some (.frz o (.lst xs)) → H' b = some (.frz o (.lst xs))
theorem Tups.refl (H : Hp) : Tups H H := ⟨fun _ _ h => h, fun _ _ _ h => h⟩
theorem Tups.trans {H H1 H2 : Hp} (a : Tups H H1) (b : Tups H1 H2) : Tups H H2 := ⟨fun c o h => b.t c o (a.t c o h), fun c o x h => b.f c o x (a.f c o x h)⟩
theorem Tups.new {H : Hp} {p : Addr} {o : HO} (h : H p = none) : Tups H (upd H p o) := ⟨fun b xs e => by
  rw [upd_ne (ne_of_none e h)]
  exact e, fun b ob xs e => by
  rw [upd_ne (ne_of_none e h)]
  exact e⟩
/-- what may be written -/
def Wr (H : Hp) (p : Addr) : Prop := (∀ xs, H p ≠ some (.tup xs)) ∧ ∀ o xs, H p ≠ some (.frz o (.lst xs))
theorem Tups.set {H : Hp} {p : Addr} {o : HO} (h : Wr H p) : Tups H (upd H p o) := ⟨fun b xs e => by
  rw [upd_ne (fun z => h.1 xs (by rw [← z]; exact e))]
  exact e, fun b ob xs e => by
  rw [upd_ne (fun z => h.2 ob xs (by rw [← z]; exact e))]
  exact e⟩
theorem Wr.of {H : Hp} {p : Addr} {o : HO} (h : H p = some o) (h1 : ∀ xs, o ≠ .tup xs) (h2 : ∀ ob xs, o ≠ .frz ob (.lst xs)) : Wr H p :=
  ⟨fun xs e => by rw [h] at e; exact h1 xs (Option.some.inj e), fun ob xs e => by rw [h] at e; exact h2 ob xs (Option.some.inj e)⟩
mutual
theorem Rp.mono {K : PySem.W.Frag} {H H' : Hp} (k : Tups H H') : ∀ (t : T) (v : V), Rp K H t v → Rp K H' t v
  | .non, _, h => h
  | .bl _, _, h => h
  | .int _, _, h => h
  | .str _, _, h => h
  | .tup ts, _, ⟨a, vs, e, h, r⟩ => ⟨a, vs, e, k.t _ _ h, RpL.mono k ts vs r⟩
  | .ref _, _, h => h
  | .ty _, _, h => h
  | .scr _, _, ⟨a, e, h⟩ => ⟨a, e, h.imp (fun ⟨o, q⟩ => ⟨o, k.f _ _ _ q⟩) id⟩
theorem RpL.mono {K : PySem.W.Frag} {H H' : Hp} (k : Tups H H') : ∀ (ts : List T) (vs : List V), RpL K H ts vs → RpL K H' ts vs
  | [], _, h => h
  | t :: ts, _, ⟨v, r, e, h, hr⟩ => ⟨v, r, e, Rp.mono k t v h, RpL.mono k ts r hr⟩
end
theorem RpL.length {K : PySem.W.Frag} {H : Hp} : ∀ {ts : List T} {vs : List V}, RpL K H ts vs → vs.length = ts.length
  | [], _, h => by rw [show _ = [] from h]; rfl
  | t :: ts, _, ⟨v, r, e, h, hr⟩ => by rw [e, List.length_cons, RpL.length hr]; rfl
theorem RpL.get {K : PySem.W.Frag} {H : Hp} : ∀ {ts : List T} {vs : List V} {i : Nat} {v : V}, RpL K H ts vs → vs[i]? = some v → ∃ t, ts[i]? = some t ∧ Rp K H t v
  | [], _, i, v, h, e => by rw [show _ = [] from h] at e; simp at e
  | t :: ts, _, 0, v, ⟨w, r, e1, h, hr⟩, e => by subst e1; simp at e; subst e; exact ⟨t, rfl, h⟩
  | t :: ts, _, i + 1, v, ⟨w, r, e1, h, hr⟩, e => by
    subst e1
    obtain ⟨u, h1, h2⟩ := RpL.get (i := i) hr (by simpa using e)
    exact ⟨u, by simpa using h1, h2⟩
theorem RpL.at {K : PySem.W.Frag} {H : Hp} {ts : List T} {vs : List V} {i : Nat} {t : T} (h : RpL K H ts vs) (e : ts[i]? = some t) : ∃ v, vs[i]? = some v ∧ Rp K H t v := by
  have hl := h.length
  have hi : i < vs.length := by rw [hl]; exact (List.getElem?_eq_some_iff.mp e).1
  obtain ⟨u, h1, h2⟩ := h.get (v := vs[i]) (List.getElem?_eq_getElem hi)
  rw [e] at h1; cases h1
  exact ⟨vs[i], List.getElem?_eq_getElem hi, h2⟩
theorem RpL.append {K : PySem.W.Frag} {H : Hp} : ∀ {ts us : List T} {vs ws : List V}, RpL K H ts vs → RpL K H us ws → RpL K H (ts ++ us) (vs ++ ws)
  | [], _, _, _, h, q => by rw [show _ = [] from h]; exact q
  | t :: ts, _, _, _, ⟨v, r, e, h, hr⟩, q => ⟨v, r ++ _, by rw [e]; rfl, h, RpL.append hr q⟩
theorem RpL.take {K : PySem.W.Frag} {H : Hp} : ∀ {ts : List T} {vs : List V} (n : Nat), RpL K H ts vs → RpL K H (ts.take n) (vs.take n)
  | _, _, 0, _ => rfl
  | [], _, n + 1, h => by rw [show _ = [] from h]; rfl
  | t :: ts, _, n + 1, ⟨v, r, e, h, hr⟩ => ⟨v, r.take n, by rw [e]; rfl, h, RpL.take n hr⟩
theorem RpL.drop {K : PySem.W.Frag} {H : Hp} : ∀ {ts : List T} {vs : List V} (n : Nat), RpL K H ts vs → RpL K H (ts.drop n) (vs.drop n)
  | _, _, 0, h => h
  | [], _, n + 1, h => by rw [show _ = [] from h]; rfl
  | t :: ts, _, n + 1, ⟨v, r, e, h, hr⟩ => by rw [e]; exact RpL.drop n hr
theorem RpL.set {K : PySem.W.Frag} {H : Hp} {t : T} {v : V} (h : Rp K H t v) : ∀ {ts : List T} {vs : List V} (n : Nat), RpL K H ts vs → RpL K H (ts.set n t) (vs.set n v)
  | [], _, n, h => by rw [show _ = [] from h]; rfl
  | _ :: ts, _, 0, ⟨w, r, e, _, hr⟩ => ⟨v, r, by rw [e]; rfl, h, hr⟩
  | u :: ts, _, n + 1, ⟨w, r, e, hu, hr⟩ => ⟨w, r.set n v, by rw [e]; rfl, hu, RpL.set h n hr⟩
theorem RpL.one {K : PySem.W.Frag} {H : Hp} {t : T} {v : V} (h : Rp K H t v) : RpL K H [t] [v] := ⟨v, [], rfl, h, rfl⟩
theorem RpL.flat {K : PySem.W.Frag} {H : Hp} {ts : List T} {vs : List V} (h : RpL K H ts vs) : ∀ n : Nat, RpL K H (List.replicate n ts).flatten (List.replicate n vs).flatten
  | 0 => rfl
  | n + 1 => by
    rw [List.replicate_succ, List.replicate_succ, List.flatten_cons, List.flatten_cons]
    exact RpL.append h (RpL.flat h n)
theorem RpL.ints {K : PySem.W.Frag} {H : Hp} : ∀ {ns : List Int} {vs : List V}, RpL K H (ns.map T.int) vs → vs = ns.map V.int
  | [], _, h => h
  | n :: ns, _, ⟨v, r, e, h, hr⟩ => by rw [e, show v = V.int n from h, RpL.ints hr]; rfl
theorem RpL.of_ints {K : PySem.W.Frag} {H : Hp} : ∀ {ns : List Int}, RpL K H (ns.map T.int) (ns.map V.int)
  | [] => rfl
  | n :: ns => ⟨_, _, rfl, rfl, RpL.of_ints⟩

/-! ### the abstract heap -/
inductive GO where
  | lst (ts : List T) | dK (kvs : List (Key × T)) | dT (kvs : List (List Key × T)) | ins (C dx : Addr) (fs : List (Str × T)) | raw (o : HO)
def RpK (K : PySem.W.Frag) {κ : Type} (H : Hp) : List (κ × T) → List (κ × V) → Prop
  | [], ws => ws = []
  | p :: ps, ws => ∃ v r, ws = (p.1, v) :: r ∧ Rp K H p.2 v ∧ RpK K H ps r
theorem RpK.mono {K : PySem.W.Frag} {κ : Type} {H H' : Hp} (k : Tups H H') : ∀ {ps : List (κ × T)} {ws : List (κ × V)}, RpK K H ps ws → RpK K H' ps ws
  | [], _, h => h
  | p :: ps, _, ⟨v, r, e, h, hr⟩ => ⟨v, r, e, Rp.mono k _ _ h, RpK.mono k hr⟩
def GOk (K : PySem.W.Frag) (H : Hp) (a : Addr) : GO → Prop
  | .lst ts => ∃ vs, H a = some (.lst vs) ∧ RpL K H ts vs
  | .dK kvs => ∃ ws, H a = some (.dK ws) ∧ RpK K H kvs ws
  | .dT kvs => ∃ ws, H a = some (.dT ws) ∧ RpK K H kvs ws
  | .ins C dx fs => ∃ ws, H a = some (.ins C dx ws) ∧ RpK K H fs ws
  | .raw o => H a = some o
abbrev Gp := Addr → Option GO
def gput (G : Gp) (a : Addr) (o : GO) : Gp := fun b => if b = a then some o else G b
theorem gput_same {G : Gp} {a : Addr} {o : GO} : gput G a o a = some o := by unfold gput; rw [if_pos rfl]
theorem gput_ne {G : Gp} {a b : Addr} {o : GO} (h : b ≠ a) : gput G a o b = G b := by unfold gput; rw [if_neg h]
theorem gput_put {G : Gp} {a : Addr} {o u : GO} : gput (gput G a o) a u = gput G a u := by
  funext b; unfold gput; split <;> rfl
theorem gput_id {G : Gp} {a : Addr} {o : GO} (h : G a = some o) : gput G a o = G := by
  funext b; unfold gput; split
  · rename_i e; subst e; exact h.symm
  · rfl
theorem gput_comm {G : Gp} {a b : Addr} {o u : GO} (h : a ≠ b) : gput (gput G a o) b u = gput (gput G b u) a o := by
  funext c; unfold gput
  by_cases h1 : c = a
  · subst h1; rw [if_neg h, if_pos rfl, if_pos rfl]
  · rw [if_neg h1, if_neg h1]
theorem gne {G : Gp} {a b : Addr} {o : GO} (h : G a = some o) (h' : G b = none) : a ≠ b := fun e => by
  subst e; rw [h] at h'; cases h'
def Abs (K : PySem.W.Frag) (H : Hp) (G : Gp) : Prop := ∀ a o, G a = some o → GOk K H a o
def Sub (G G' : Gp) : Prop := ∀ a o, G a = some o → G' a = some o
theorem Sub.refl (G : Gp) : Sub G G := fun _ _ h => h
theorem Sub.trans {G G1 G2 : Gp} (a : Sub G G1) (b : Sub G1 G2) : Sub G G2 := fun c o h => b c o (a c o h)
theorem Sub.new {G G' : Gp} {p : Addr} {o : GO} (s : Sub G G') (h : G' p = none) : Sub G (gput G' p o) := fun b u e => by
  have e' := s b u e
  rw [gput_ne (gne e' h)]
  exact e'
/-- an object that G doesn't know may change -/
theorem Sub.mut {G G' : Gp} {p : Addr} {o : GO} (s : Sub G G') (h : G p = none) : Sub G (gput G' p o) := fun b u e => by
  rw [gput_ne (gne e h)]
  exact s b u e
theorem Sub.put {G G' : Gp} {p : Addr} {o : GO} (s : Sub G G') : Sub (gput G p o) (gput G' p o) := fun b u e => by
  unfold gput at *
  split
  · rename_i h; rw [if_pos h] at e; exact e
  · rename_i h; rw [if_neg h] at e; exact s b u e
theorem Sub.free {G G' : Gp} (s : Sub G G') {p : Addr} (h : G' p = none) : G p = none := by
  cases q : G p with
  | none => rfl
  | some o => rw [s p o q] at h; cases h
theorem Abs.sub {K : PySem.W.Frag} {H : Hp} {G G' : Gp} (x : Abs K H G') (s : Sub G G') : Abs K H G := fun a o e => x a o (s a o e)
theorem GOk.other {K : PySem.W.Frag} {H : Hp} {a p : Addr} {u : HO} {o : GO} (hne : a ≠ p) (ht : Wr H p) (x : GOk K H a o) : GOk K (upd H p u) a o := by
  have k : Tups H (upd H p u) := Tups.set ht
  cases o with
  | lst ts => obtain ⟨vs, h, r⟩ := x; exact ⟨vs, by rw [upd_ne hne]; exact h, RpL.mono k _ _ r⟩
  | dK kvs => obtain ⟨vs, h, r⟩ := x; exact ⟨vs, by rw [upd_ne hne]; exact h, r.mono k⟩
  | dT kvs => obtain ⟨vs, h, r⟩ := x; exact ⟨vs, by rw [upd_ne hne]; exact h, r.mono k⟩
  | ins C dx fs => obtain ⟨vs, h, r⟩ := x; exact ⟨vs, by rw [upd_ne hne]; exact h, r.mono k⟩
  | raw o => exact (show upd H p u a = some o by rw [upd_ne hne]; exact x)
theorem GOk.fresh {K : PySem.W.Frag} {H : Hp} {a p : Addr} {u : HO} {o : GO} (hp : H p = none) (x : GOk K H a o) : GOk K (upd H p u) a o := by
  by_cases hne : a = p
  · subst hne
    cases o with
    | lst ts => obtain ⟨vs, h, r⟩ := x; rw [hp] at h; cases h
    | dK kvs => obtain ⟨vs, h, r⟩ := x; rw [hp] at h; cases h
    | dT kvs => obtain ⟨vs, h, r⟩ := x; rw [hp] at h; cases h
    | ins C dx fs => obtain ⟨vs, h, r⟩ := x; rw [hp] at h; cases h
    | raw o => exact absurd (show H a = some o from x) (by rw [hp]; intro z; cases z)
  · exact GOk.other hne ⟨fun xs z => (by rw [hp] at z; cases z), fun o xs z => (by rw [hp] at z; cases z)⟩ x
/-- a new untracked object (a tuple) -/
theorem Abs.grow {K : PySem.W.Frag} {H : Hp} {G : Gp} {p : Addr} {u : HO} (x : Abs K H G) (hp : H p = none) : Abs K (upd H p u) G := fun a o e => (x a o e).fresh hp
theorem Abs.put {K : PySem.W.Frag} {H : Hp} {G : Gp} {p : Addr} {u : HO} {o : GO} (x : Abs K H G) (ht : Wr H p) (n : GOk K (upd H p u) p o) : Abs K (upd H p u) (gput G p o) := fun a v e => by
  by_cases h : a = p
  · subst h; rw [gput_same] at e; cases e; exact n
  · rw [gput_ne h] at e; exact (x a v e).other h ht
theorem Abs.free {K : PySem.W.Frag} {H : Hp} {G : Gp} {p : Addr} (x : Abs K H G) (h : H p = none) : G p = none := by
  cases q : G p with
  | none => rfl
  | some o =>
    have y := x p o q
    cases o with
    | lst ts => obtain ⟨vs, e, _⟩ := y; rw [h] at e; cases e
    | dK kvs => obtain ⟨vs, e, _⟩ := y; rw [h] at e; cases e
    | dT kvs => obtain ⟨vs, e, _⟩ := y; rw [h] at e; cases e
    | ins C dx fs => obtain ⟨vs, e, _⟩ := y; rw [h] at e; cases e
    | raw o => exact absurd (show H p = some o from y) (by rw [h]; intro z; cases z)
end Lw

set_option Elab.async false
set_option linter.all false
set_option maxRecDepth 100000
set_option maxHeartbeats 4000000
namespace Lw
open PySem PySem.Spec PyProof.Rows L2

/-! ### environments -/
abbrev REnv := List (Option T)
def nth {α : Type} : List α → Nat → Option α
  | [], _ => none
  | a :: _, 0 => some a
  | _ :: l, n + 1 => nth l n
def put {α : Type} : List α → Nat → α → List α
  | [], _, _ => []
  | _ :: l, 0, x => x :: l
  | a :: l, n + 1, x => a :: put l n x
/-- put, handed on with its cells written out -/
def putK {α : Type} : List α → Nat → α → (List α → Prop) → Prop
  | [], _, _, k => k []
  | _ :: l, 0, x, k => k (x :: l)
  | a :: l, n + 1, x, k => putK l n x fun l' => k (a :: l')
theorem putK_put {α : Type} : ∀ {l : List α} {n : Nat} {x : α} {k : List α → Prop}, putK l n x k → k (put l n x)
  | [], _, _, _, h => h
  | _ :: _, 0, _, _, h => h
  | a :: l, n + 1, x, k, h => putK_put (l := l) (n := n) (x := x) (k := fun l' => k (a :: l')) h
def normK {α : Type} : List α → (List α → Prop) → Prop
  | [], k => k []
  | a :: l, k => normK l fun l' => k (a :: l')
theorem normK_norm {α : Type} : ∀ {l : List α} {k : List α → Prop}, normK l k → k l
  | [], _, h => h
  | a :: l, k, h => normK_norm (l := l) (k := fun l' => k (a :: l')) h
def EnvR (K : PySem.W.Frag) (H : Hp) : REnv → L2.St → Prop
  | [], σ => σ = []
  | o :: r, σ => ∃ w s, σ = w :: s ∧ (∀ t, o = some t → ∃ v, w = some v ∧ Rp K H t v) ∧ EnvR K H r s
section
variable {K : PySem.W.Frag} {H H' : Hp}
theorem EnvR.mono (k : Tups H H') : ∀ {ρ : REnv} {σ : L2.St}, EnvR K H ρ σ → EnvR K H' ρ σ
  | [], _, h => h
  | o :: r, _, ⟨w, s, e, h, hr⟩ => ⟨w, s, e, fun t q => let ⟨v, a, b⟩ := h t q; ⟨v, a, b.mono k⟩, EnvR.mono k hr⟩
theorem EnvR.get : ∀ {ρ : REnv} {σ : L2.St} {i : Nat} {t : T}, EnvR K H ρ σ → nth ρ i = some (some t) → ∃ v, σ[i]? = some (some v) ∧ Rp K H t v
  | [], _, _, _, _, e => by simp [nth] at e
  | o :: r, _, 0, t, ⟨w, s, e, h, hr⟩, q => by
    subst e
    obtain ⟨v, a, b⟩ := h t (Option.some.inj q)
    subst a
    exact ⟨v, rfl, b⟩
  | o :: r, _, i + 1, t, ⟨w, s, e, h, hr⟩, q => by
    subst e
    obtain ⟨v, a, b⟩ := EnvR.get (i := i) hr q
    exact ⟨v, by simpa using a, b⟩
theorem EnvR.put {t : T} {v : V} (r : Rp K H t v) : ∀ {ρ : REnv} {σ : L2.St} (i : Nat), EnvR K H ρ σ → EnvR K H (put ρ i (some t)) (σ.set i (some v))
  | [], _, _, h => by rw [show _ = [] from h]; rfl
  | o :: ρ, _, 0, ⟨w, s, e, h, hr⟩ => ⟨some v, s, by rw [e]; rfl, fun u q => ⟨v, rfl, (by cases q; exact r)⟩, hr⟩
  | o :: ρ, _, i + 1, ⟨w, s, e, h, hr⟩ => ⟨w, s.set i (some v), by rw [e]; rfl, h, EnvR.put r i hr⟩
theorem EnvR.putN : ∀ {ρ : REnv} {σ : L2.St} (i : Nat) {w : Option V}, EnvR K H ρ σ → EnvR K H (Lw.put ρ i none) (σ.set i w)
  | [], _, _, _, h => by rw [show _ = [] from h]; rfl
  | o :: ρ, _, 0, w, ⟨_, s, e, h, hr⟩ => ⟨w, s, by rw [e]; rfl, fun u q => (by cases q), hr⟩
  | o :: ρ, _, i + 1, w, ⟨x, s, e, h, hr⟩ => ⟨x, s.set i w, by rw [e]; rfl, h, EnvR.putN i hr⟩
theorem EnvR.nil : EnvR K H [] [] := rfl
theorem EnvR.nones : ∀ n : Nat, EnvR K H (List.replicate n none) (List.replicate n none)
  | 0 => rfl
  | n + 1 => ⟨none, List.replicate n none, rfl, fun t q => (by cases q), EnvR.nones n⟩
theorem EnvR.start : ∀ {ts : List T} {vs : List V} (n : Nat), RpL K H ts vs → EnvR K H (ts.map some ++ List.replicate n none) (vs.map some ++ List.replicate n none)
  | [], _, n, h => by rw [show _ = [] from h]; exact EnvR.nones n
  | t :: ts, _, n, ⟨v, r, e, h, hr⟩ => by subst e; exact ⟨some v, _, rfl, fun u q => ⟨v, rfl, (by cases q; exact h)⟩, EnvR.start n hr⟩
end
/-- slots forgotten -/
inductive ELe : REnv → REnv → Prop
  | nil : ELe [] []
  | keep (o : Option T) {r s : REnv} : ELe r s → ELe (o :: r) (o :: s)
  | drop (o : Option T) {r s : REnv} : ELe r s → ELe (none :: r) (o :: s)
theorem ELe.refl : ∀ ρ : REnv, ELe ρ ρ
  | [] => .nil
  | o :: r => .keep o (ELe.refl r)
theorem EnvR.le {K : PySem.W.Frag} {H : Hp} {ρ ρ' : REnv} {σ : L2.St} (l : ELe ρ ρ') : EnvR K H ρ' σ → EnvR K H ρ σ := by
  induction l generalizing σ with
  | nil => exact id
  | keep o _ ih => rintro ⟨w, s, e, h, hr⟩; exact ⟨w, s, e, h, ih hr⟩
  | drop o _ ih => rintro ⟨w, s, e, h, hr⟩; exact ⟨w, s, e, fun t q => (by cases q), ih hr⟩

/-! ### readings -/
abbrev TK := T → Gp → Prop
abbrev QE := REnv → Gp → TK → Prop
abbrev QT := REnv → Gp → (Bool → Gp → Prop) → Prop
abbrev QA := REnv → Gp → (List T → Gp → Prop) → Prop
/-- an exception: its class, its field -/
abbrev XQ := Value → Option T → Gp → Prop
abbrev QSp := List T → Gp → TK → XQ → Prop
structure QD where
  nx : REnv → Gp → Prop
  rt : TK
  bk : REnv → Gp → Prop := fun _ _ => False
  ct : REnv → Gp → Prop := fun _ _ => False
abbrev QS := QD → REnv → Gp → Prop
abbrev Q2 := T → T → Gp → TK → Prop
abbrev Q1 := T → Gp → TK → Prop
abbrev QC := List T → Gp → TK → Prop
section
variable (K : PySem.W.Frag)
/-- what follows, seen from H -/
def Fol (H : Hp) (Q : TK) (KQ : VK) : Prop := ∀ v H' t G', Tups H H' → Abs K H' G' → Rp K H' t v → Q t G' → KQ v H'
def FolS (H : Hp) (Q : REnv → Gp → Prop) (KQ : L2.St → Hp → Prop) : Prop := ∀ σ' H' ρ' G', Tups H H' → EnvR K H' ρ' σ' → Abs K H' G' → Q ρ' G' → KQ σ' H'
structure FolD (H : Hp) (D' : QD) (D : Ends) : Prop where
  nx : FolS K H D'.nx D.nx
  rt : Fol K H D'.rt D.rt
  bk : FolS K H D'.bk D.bk
  ct : FolS K H D'.ct D.ct
def cE (q : QE) : TE := fun σ H KQ => ∃ ρ G Q, EnvR K H ρ σ ∧ Abs K H G ∧ q ρ G Q ∧ Fol K H Q KQ
def cT (q : QT) : TT := fun σ H KQ => ∃ ρ G Q, EnvR K H ρ σ ∧ Abs K H G ∧ q ρ G Q ∧ ∀ b H' G', Tups H H' → Abs K H' G' → Q b G' → KQ b H'
def cA (q : QA) : TA := fun σ H KQ => ∃ ρ G Q, EnvR K H ρ σ ∧ Abs K H G ∧ q ρ G Q ∧ ∀ vs H' ts G', Tups H H' → Abs K H' G' → RpL K H' ts vs → Q ts G' → KQ vs H'
def cS (q : QS) : TS := fun D σ H => ∃ ρ G D', EnvR K H ρ σ ∧ Abs K H G ∧ q D' ρ G ∧ FolD K H D' D
def c2 (f : Q2) : R2 := fun v w H KQ => ∃ x y G Q, Rp K H x v ∧ Rp K H y w ∧ Abs K H G ∧ f x y G Q ∧ Fol K H Q KQ
def c1 (f : Q1) : V → Hp → VK → Prop := fun v H KQ => ∃ x G Q, Rp K H x v ∧ Abs K H G ∧ f x G Q ∧ Fol K H Q KQ
def cC (f : QC) : List V → Hp → VK → Prop := fun vs H KQ => ∃ ts G Q, RpL K H ts vs ∧ Abs K H G ∧ f ts G Q ∧ Fol K H Q KQ
/-- how an exception is handed on: no dict (no field), or its own dict with the field «number» -/
def RpX (H : Hp) : Option T → Option Addr → Prop
  | none, d => d = none
  | some t, d => ∃ a v, d = some a ∧ H a = some (.xd [("number", v)]) ∧ Rp K H t v
def FolX (H : Hp) (E' : XQ) (E : XK) : Prop := ∀ c d H' fo G', Tups H H' → Abs K H' G' → RpX K H' fo d → E' c fo G' → E c d H'
def cSp (q : QSp) : Sp := fun vs H KQ E => ∃ ts G Q E', RpL K H ts vs ∧ Abs K H G ∧ q ts G Q E' ∧ Fol K H Q KQ ∧ FolX K H E' E
abbrev QG := T → REnv → Gp → (REnv → Gp → Prop) → Prop
def cG (own : List Nat) (q : QG) : TG := fun v σ H KQ => ∃ t ρ G Q, Rp K H t v ∧ EnvR K H ρ σ ∧ Abs K H G ∧ q t ρ G Q ∧ ∀ σ' H' ρ' G', wipe σ' own = wipe σ own → Tups H H' → EnvR K H' ρ' σ' → Abs K H' G' → Q ρ' G' → KQ σ' H'
abbrev QGs := List T → REnv → Gp → (REnv → Gp → Prop) → Prop
def cGs (own : List Nat) (q : QGs) : TGs := fun vs σ H KQ => ∃ ts ρ G Q, RpL K H ts vs ∧ EnvR K H ρ σ ∧ Abs K H G ∧ q ts ρ G Q ∧ ∀ σ' H' ρ' G', wipe σ' own = wipe σ own → Tups H H' → EnvR K H' ρ' σ' → Abs K H' G' → Q ρ' G' → KQ σ' H'
/-- a walk over the items ts, as long as the heap is so -/
structure WalkT (J : It) (H1 : Hp) (ts : List T) (St : Gp → Prop) : Prop where
  goes : ∀ i H G, i < ts.length → Tups H1 H → Abs K H G → St G → J.go i H
  stops : ∀ H G, Tups H1 H → Abs K H G → St G → J.stop ts.length H
  yields : ∀ i H G x H', i < ts.length → Tups H1 H → Abs K H G → St G → J.yld i H x H' → Tups H H' ∧ Abs K H' G ∧ ∃ t, ts[i]? = some t ∧ Rp K H' t x
abbrev QI := REnv → Gp → (List T → (Gp → Prop) → Gp → Prop) → Prop
def cI (q : QI) : TI := fun σ H R => ∃ ρ G Q, EnvR K H ρ σ ∧ Abs K H G ∧ q ρ G Q ∧ ∀ J H1 ts St G1, Tups H H1 → Abs K H1 G1 → WalkT K J H1 ts St → Q ts St G1 → R J H1
end
section
variable {K : PySem.W.Frag} {H H1 H' : Hp} {Q Q' : TK} {KQ KQ' : VK}
theorem Fol.from (f : Fol K H Q KQ) (k : Tups H H1) : Fol K H1 Q KQ := fun v H' t G' a => f v H' t G' (k.trans a)
theorem FolS.from {Q : REnv → Gp → Prop} {KQ : L2.St → Hp → Prop} (f : FolS K H Q KQ) (k : Tups H H1) : FolS K H1 Q KQ := fun v H' t G' a => f v H' t G' (k.trans a)
theorem FolX.from {E' : XQ} {E : XK} (f : FolX K H E' E) (k : Tups H H1) : FolX K H1 E' E := fun v d H' t G' a => f v d H' t G' (k.trans a)
theorem FolD.from {D' : QD} {D : Ends} (f : FolD K H D' D) (k : Tups H H1) : FolD K H1 D' D := ⟨f.nx.from k, f.rt.from k, f.bk.from k, f.ct.from k⟩
theorem cE.go {q : QE} {σ : L2.St} {ρ : REnv} {G : Gp} (e : EnvR K H ρ σ) (a : Abs K H G) (h : q ρ G Q) (f : Fol K H Q KQ) : cE K q σ H KQ := ⟨ρ, G, Q, e, a, h, f⟩
end
/-! ### weaker wishes -/
section
variable {X : Cx}
theorem PE.wk {e : Expr} {t t' : TE} (h : PE X e t) (w : ∀ σ H Q, t' σ H Q → t σ H Q) : PE X e t' := ⟨fun p s σ H Q I q => h.run p s σ H Q I (w σ H Q q)⟩
theorem PT.wk {e : Expr} {t t' : TT} (h : PT X e t) (w : ∀ σ H Q, t' σ H Q → t σ H Q) : PT X e t' := ⟨fun p s σ H Q I q => h.run p s σ H Q I (w σ H Q q)⟩
theorem PW.wk {e : Expr} {t t' : TT} (h : PW X e t) (w : ∀ σ H Q, t' σ H Q → t σ H Q) : PW X e t' := ⟨fun wh p s σ H Q I q => h.run wh p s σ H Q I (w σ H Q q)⟩
theorem PA.wk {e : List Expr} {t t' : TA} (h : PA X e t) (w : ∀ σ H Q, t' σ H Q → t σ H Q) : PA X e t' := ⟨fun po p s σ H Q I q => h.run po p s σ H Q I (w σ H Q q)⟩
theorem PS.wk {e : Stmt} {t t' : TS} (h : PS X e t) (w : ∀ D σ H, t' D σ H → t D σ H) : PS X e t' := ⟨fun p s σ H D I q => h.run p s σ H D I (w D σ H q)⟩
theorem PSs.wk {e : List Stmt} {t t' : TS} (h : PSs X e t) (w : ∀ D σ H, t' D σ H → t D σ H) : PSs X e t' := ⟨fun p s σ H D I q => h.run p s σ H D I (w D σ H q)⟩
theorem PG.wk {e : Expr} {t t' : TG} (h : PG X e t) (w : ∀ v σ H Q, t' v σ H Q → t v σ H Q) : PG X e t' := ⟨fun p s σ H v u Q I r q => h.run p s σ H v u Q I r (w v σ H Q q)⟩
theorem PGs.wk {e : List Expr} {t t' : TGs} (h : PGs X e t) (w : ∀ v σ H Q, t' v σ H Q → t v σ H Q) : PGs X e t' := ⟨fun p s σ H v u Q I r q => h.run p s σ H v u Q I r (w v σ H Q q)⟩
theorem PI.wk {tg e : Expr} {t t' : TI} (h : PI X tg e t) (w : ∀ σ H R, t' σ H R → t σ H R) : PI X tg e t' := ⟨fun p s σ H R I q => h.run p s σ H R I (w σ H R q)⟩

/-! ### names, constants -/
def qVar (i : Nat) : QE := fun ρ G Q => match nth ρ i with | some (some t) => Q t G | _ => False
def qC (t : T) : QE := fun _ G Q => Q t G
theorem e_var (i : Nat) {x : Str} {pos : Pos} (hN : X.N[i]? = some x := by rfl) (hv : Vis X.env.scope x := by first | exact Or.inl rfl | exact Or.inr (Or.inl rfl) | exact Or.inr (Or.inr rfl)) (hd : (x == ("__debug__" : Str)) = false := by decide)
    (hcd : (x == ("__classdict__" : Str)) = false := by decide) : PE X (.Name x pos) (cE X.K (qVar i)) := PE.wk (pv i hN hv hd hcd) fun σ H KQ h => by
  obtain ⟨ρ, G, Q, e, a, q, f⟩ := h
  unfold qVar at q
  split at q
  · rename_i t ht
    obtain ⟨v, hv, r⟩ := e.get ht
    exact ⟨v, hv, f v H t G (Tups.refl H) a r q⟩
  · exact q.elim
theorem e_k {t : T} {v : V} {e : Expr} (h : PE X e (tC v)) (r : ∀ H, Rp X.K H t v) : PE X e (cE X.K (qC t)) := PE.wk h fun σ H KQ h => by
  obtain ⟨ρ, G, Q, e, a, q, f⟩ := h
  exact f v H t G (Tups.refl H) a (r H) q
theorem e_int {i j pos} : PE X (.Constant (.int i) j pos) (cE X.K (qC (.int i))) := e_k pe_int fun _ => rfl
theorem e_bl {b j pos} : PE X (.Constant (.bool b) j pos) (cE X.K (qC (.bl b))) := e_k pe_bl fun _ => rfl
theorem e_non {j pos} : PE X (.Constant .none j pos) (cE X.K (qC .non)) := e_k pe_non fun _ => rfl
theorem e_str {x j pos} : PE X (.Constant (.str x) j pos) (cE X.K (qC (.str x))) := e_k pe_str fun _ => rfl
theorem e_ty (n : TyN) {x : Str} {pos : Pos} (hg : Gl X x) (hm : X.mg x = none) (hv : bootBuiltins x = some (.type n.name)) (hn : x ≠ "__name__" := by decide) (hd : (x == ("__debug__" : Str)) = false := by decide) : PE X (.Name x pos) (cE X.K (qC (.ty n))) :=
  e_k (pe_bltn (v := .ty n.name) hg hm hv rfl hn hd) fun _ => rfl
/-- a module's constant -/
theorem e_glob {x : Str} {t : T} {v : V} {u : Value} {pos : Pos} (hg : Gl X x) (hm : X.mg x = some u) (r : RelV v u) (r2 : ∀ H, Rp X.K H t v) (hd : (x == ("__debug__" : Str)) = false := by decide) : PE X (.Name x pos) (cE X.K (qC t)) :=
  e_k (pe_glob hg hm r hd) r2

/-! ### arguments, displays -/
def qNil : QA := fun _ G Q => Q [] G
def qCons (qe : QE) (qa : QA) : QA := fun ρ G Q => qe ρ G fun x G1 => qa ρ G1 fun xs G2 => Q (x :: xs) G2
variable {e a b c : Expr} {es : List Expr} {qe qa qb qc : QE} {qs : QA} {pos : Pos}
theorem a_nil : PA X [] (cA X.K qNil) := PA.wk pa_nil fun σ H KQ h => by
  obtain ⟨ρ, G, Q, e, a, q, f⟩ := h
  exact f [] H [] G (Tups.refl H) a rfl q
theorem a_cons (ha : PE X e (cE X.K qe)) (hr : PA X es (cA X.K qs)) (hs : starEach (e :: es) X.env = (false, eval e X.env) :: starEach es X.env := by rfl) : PA X (e :: es) (cA X.K (qCons qe qs)) :=
  PA.wk (pa_cons ha hr hs) fun σ H KQ h => by
    obtain ⟨ρ, G, Q, e, a, q, f⟩ := h
    refine ⟨ρ, G, _, e, a, q, fun v H1 t G1 k1 a1 r1 q1 => ?_⟩
    refine ⟨ρ, G1, _, e.mono k1, a1, q1, fun vs H2 ts G2 k2 a2 r2 q2 => ?_⟩
    exact f (v :: vs) H2 (t :: ts) G2 (k1.trans k2) a2 ⟨v, vs, rfl, r1.mono k2, r2⟩ q2
/-- short lists ask nothing -/
def shortL : Nat → List T → Bool
  | _, [] => true
  | 0, _ :: _ => false
  | n + 1, _ :: l => shortL n l
theorem shortL.le : ∀ {n : Nat} {l : List T}, shortL n l = true → l.length ≤ n
  | _, [], _ => Nat.zero_le _
  | 0, _ :: _, h => by cases h
  | n + 1, _ :: l, h => Nat.succ_le_succ (shortL.le (n := n) h)
def lenOk (ts : List T) (P : Prop) : Prop := match shortL 16 ts with
  | true => P
  | false => ts.length ≤ 100000 ∧ P
theorem lenOk.len {ts : List T} {P : Prop} (h : lenOk ts P) : ts.length ≤ 100000 ∧ P := by
  unfold lenOk at h
  split at h
  · rename_i e
    exact ⟨Nat.le_trans (shortL.le e) (by decide), h⟩
  · exact h
theorem lenOk.of {ts : List T} {P : Prop} (h : ts.length ≤ 100000) (p : P) : lenOk ts P := by
  unfold lenOk
  split
  · exact p
  · exact ⟨h, p⟩
def qTup (qa : QA) : QE := fun ρ G Q => qa ρ G fun ts G1 => lenOk ts (Q (.tup ts) G1)
theorem sz100 {n : Nat} (h : n ≤ 100000) : n ≤ sizeLine := Nat.le_trans h (by decide)
theorem e_tup {x1} (h : PA X es (cA X.K qs)) : PE X (.Tuple es x1 pos) (cE X.K (qTup qs)) := PE.wk (pe_tup h) fun σ H KQ h => by
  obtain ⟨ρ, G, Q, e, a, q, f⟩ := h
  refine ⟨ρ, G, _, e, a, q, fun vs H1 ts G1 k1 a1 r1 q1 => ⟨by rw [r1.length]; exact sz100 q1.len.1, fun p hp => ?_⟩⟩
  have q1 := q1.len
  have k2 : Tups H1 (upd H1 p (.tup vs)) := Tups.new hp
  exact f (.ref p) _ (.tup ts) G1 (k1.trans k2) (a1.grow hp) ⟨p, vs, rfl, upd_same, r1.mono k2⟩ q1.2
def qLst (qa : QA) : QE := fun ρ G Q => qa ρ G fun ts G1 => lenOk ts (∀ p, G1 p = none → Q (.ref p) (gput G1 p (.lst ts)))
theorem e_lst (h : PA X es (cA X.K qs)) : PE X (.List es pos) (cE X.K (qLst qs)) := PE.wk (pe_lst h) fun σ H KQ h => by
  obtain ⟨ρ, G, Q, e, a, q, f⟩ := h
  refine ⟨ρ, G, _, e, a, q, fun vs H1 ts G1 k1 a1 r1 q1 => ⟨by rw [r1.length]; exact sz100 q1.len.1, fun p hp => ?_⟩⟩
  have q1 := q1.len
  have k2 : Tups H1 (upd H1 p (.lst vs)) := Tups.new hp
  exact f (.ref p) _ (.ref p) _ (k1.trans k2) (a1.put (o := .lst ts) ⟨fun xs z => (by rw [hp] at z; cases z), fun o xs z => (by rw [hp] at z; cases z)⟩ ⟨vs, upd_same, r1.mono k2⟩) rfl (q1.2 p (a1.free hp))

/-! ### operators -/
def qOp (f : Q2) (qa qb : QE) : QE := fun ρ G Q => qa ρ G fun x G1 => qb ρ G1 fun y G2 => f x y G2 Q
theorem op_wk {f : Q2} {ta tb : TE} (ha : ta = cE X.K qa) (hb : tb = cE X.K qb) : ∀ σ H KQ, cE X.K (qOp f qa qb) σ H KQ → tOp (c2 X.K f) ta tb σ H KQ := fun σ H KQ h => by
  subst ha hb
  obtain ⟨ρ, G, Q, e, a, q, g⟩ := h
  refine ⟨ρ, G, _, e, a, q, fun v H1 t G1 k1 a1 r1 q1 => ?_⟩
  refine ⟨ρ, G1, _, e.mono k1, a1, q1, fun w H2 u G2 k2 a2 r2 q2 => ?_⟩
  exact ⟨t, u, G2, Q, r1.mono k2, r2, a2, q2, g.from (k1.trans k2)⟩
theorem e_op {op : Operator} {f : Q2} (ho : OpR X (binaryOp op) (c2 X.K f)) (ha : PE X a (cE X.K qa)) (hb : PE X b (cE X.K qb)) : PE X (.BinOp a op b pos) (cE X.K (qOp f qa qb)) :=
  PE.wk (pe_op ho ha hb) (op_wk rfl rfl)
theorem e_cmp {op : CmpOp} {f : Q2} (ho : OpR X (compareOp op) (c2 X.K f)) (ha : PE X a (cE X.K qa)) (hb : PE X b (cE X.K qb)) (hm : behindInMarks op b = false) : PE X (.Compare a [op] [b] pos) (cE X.K (qOp f qa qb)) :=
  PE.wk (pe_cmpR ho ha hb hm) (op_wk rfl rfl)
theorem e_ix {f : Q2} (hr : IxR X (c2 X.K f)) (ha : PE X a (cE X.K qa)) (hb : PE X b (cE X.K qb)) (hs : PlainIx b) : PE X (.Subscript a b pos) (cE X.K (qOp f qa qb)) :=
  PE.wk (pe_ix hr ha hb hs) (op_wk rfl rfl)
/-- two comparisons in a row -/
def qChain (f g : Q2) (qa qb qc : QE) : QE := fun ρ G Q => qa ρ G fun x G1 => qb ρ G1 fun y G2 => f x y G2 fun z G3 => match z with
  | .bl k => (k = true → qc ρ G3 fun w G4 => g y w G4 Q) ∧ (k = false → Q (.bl false) G3)
  | _ => False

/-! ### tests -/
def qTB (qe : QE) : QT := fun ρ G Q => qe ρ G fun x G1 => match x with | .bl b => Q b G1 | _ => False
/-- a value's truth -/
def qTr (qe : QE) : QT := fun ρ G Q => qe ρ G fun x G1 => match x with
  | .bl b => Q b G1
  | .non => Q false G1
  | .int i => Q (i != 0) G1
  | .tup ts => Q (!ts.isEmpty) G1
  | .ref a => (∃ ts, G1 a = some (.lst ts) ∧ Q (!ts.isEmpty) G1)
  | _ => False
theorem t_val {e : Expr} (h : PE X e (cE X.K qe)) (he : ∀ whole, isTrue e X.env whole = (do let v ← whole; standAt e.pos; holding [v] (truthy v)) := by intro _; rfl) : PT X e (cT X.K (qTB qe)) :=
  PT.wk (pt_val h he) fun σ H KQ h => by
    obtain ⟨ρ, G, Q, e, a, q, f⟩ := h
    refine ⟨ρ, G, _, e, a, q, fun v H1 t G1 k1 a1 r1 q1 => ?_⟩
    cases t with
    | bl b => exact ⟨b, r1, f b H1 G1 k1 a1 q1⟩
    | _ => exact q1.elim
theorem RpL.isEmpty {K : PySem.W.Frag} {H : Hp} {ts : List T} {vs : List V} (r : RpL K H ts vs) : (!vs.isEmpty) = !ts.isEmpty := by
  have h := r.length
  cases ts <;> cases vs <;> simp at h ⊢
theorem t_tr {e : Expr} (h : PE X e (cE X.K qe)) (he : ∀ whole, isTrue e X.env whole = (do let v ← whole; standAt e.pos; holding [v] (truthy v)) := by intro _; rfl) : PT X e (cT X.K (qTr qe)) :=
  PT.wk (pt_truth h he) fun σ H KQ h => by
    obtain ⟨ρ, G, Q, e, a, q, f⟩ := h
    refine ⟨ρ, G, _, e, a, q, fun v H1 t G1 k1 a1 r1 q1 => ?_⟩
    cases t with
    | bl b => cases r1; exact ⟨b, rfl, f b H1 G1 k1 a1 q1⟩
    | non => cases r1; exact ⟨false, rfl, f _ H1 G1 k1 a1 q1⟩
    | int i => cases r1; exact ⟨_, rfl, f _ H1 G1 k1 a1 q1⟩
    | tup ts =>
      obtain ⟨p, vs, rfl, hp, r⟩ := r1
      exact ⟨_, .inr (.inl ⟨vs, SqT.of hp, rfl⟩), f _ H1 G1 k1 a1 (by rw [r.isEmpty]; exact q1)⟩
    | ref p =>
      cases r1
      obtain ⟨ts, hG, q1⟩ := q1
      obtain ⟨vs, hp, r⟩ := a1 p _ hG
      exact ⟨_, .inl ⟨vs, SqL.of hp, rfl⟩, f _ H1 G1 k1 a1 (by rw [r.isEmpty]; exact q1)⟩
    | _ => exact q1.elim
theorem t_cmp {op : CmpOp} {f : Q2} (ho : OpR X (compareOp op) (c2 X.K f)) (ha : PE X a (cE X.K qa)) (hb : PE X b (cE X.K qb)) (hm : behindInMarks op b = false) : PT X (.Compare a [op] [b] pos) (cT X.K (qTB (qOp f qa qb))) :=
  PT.wk (pt_cmpR ho ha hb hm) fun σ H KQ h => by
    obtain ⟨ρ, G, Q, e, a, q, g⟩ := h
    refine op_wk rfl rfl σ H _ ⟨ρ, G, _, e, a, q, fun v H1 t G1 k1 a1 r1 q1 => ?_⟩
    cases t with
    | bl b => exact ⟨b, r1, g b H1 G1 k1 a1 q1⟩
    | _ => exact q1.elim
def qAnd (t u : QT) : QT := fun ρ G Q => t ρ G fun c G1 => (c = true → u ρ G1 Q) ∧ (c = false → Q false G1)
def qOr (t u : QT) : QT := fun ρ G Q => t ρ G fun c G1 => (c = true → Q true G1) ∧ (c = false → u ρ G1 Q)
def qNot (t : QT) : QT := fun ρ G Q => t ρ G fun c G1 => Q (!c) G1
variable {tA tB' : QT} {rest : List Expr}
theorem t_not (ha : PT X a (cT X.K tA)) : PT X (.UnaryOp .Not a pos) (cT X.K (qNot tA)) := PT.wk (pt_not ha) fun σ H KQ h => by
  obtain ⟨ρ, G, Q, e, a, q, f⟩ := h
  exact ⟨ρ, G, _, e, a, q, fun b H1 G1 k1 a1 q1 => f (!b) H1 G1 k1 a1 q1⟩
theorem w_and (ha : PT X a (cT X.K tA)) (hb : PW X (.BoolOp .And (b :: rest) pos) (cT X.K tB')) : PW X (.BoolOp .And (a :: b :: rest) pos) (cT X.K (qAnd tA tB')) := PW.wk (pw_and ha hb) fun σ H KQ h => by
  obtain ⟨ρ, G, Q, e, a, q, f⟩ := h
  refine ⟨ρ, G, _, e, a, q, fun b H1 G1 k1 a1 q1 => ?_⟩
  cases b with
  | true => exact ⟨ρ, G1, Q, e.mono k1, a1, q1.1 rfl, fun b H2 G2 k2 => f b H2 G2 (k1.trans k2)⟩
  | false => exact f false H1 G1 k1 a1 (q1.2 rfl)
theorem w_or (ha : PT X a (cT X.K tA)) (hb : PW X (.BoolOp .Or (b :: rest) pos) (cT X.K tB')) : PW X (.BoolOp .Or (a :: b :: rest) pos) (cT X.K (qOr tA tB')) := PW.wk (pw_or ha hb) fun σ H KQ h => by
  obtain ⟨ρ, G, Q, e, a, q, f⟩ := h
  refine ⟨ρ, G, _, e, a, q, fun b H1 G1 k1 a1 q1 => ?_⟩
  cases b with
  | true => exact f true H1 G1 k1 a1 (q1.1 rfl)
  | false => exact ⟨ρ, G1, Q, e.mono k1, a1, q1.2 rfl, fun b H2 G2 k2 => f b H2 G2 (k1.trans k2)⟩
/-- as values (bools) -/
def qAndV (t u : QE) : QE := fun ρ G Q => t ρ G fun x G1 => match x with | .bl c => (c = true → u ρ G1 Q) ∧ (c = false → Q (.bl false) G1) | _ => False
def qOrV (t u : QE) : QE := fun ρ G Q => t ρ G fun x G1 => match x with | .bl c => (c = true → Q (.bl true) G1) ∧ (c = false → u ρ G1 Q) | _ => False
def qNotV (t : QE) : QE := fun ρ G Q => t ρ G fun x G1 => match x with | .bl c => Q (.bl !c) G1 | _ => False
theorem e_and (ha : PE X a (cE X.K qa)) (hb : PE X (.BoolOp .And (b :: rest) pos) (cE X.K qb)) : PE X (.BoolOp .And (a :: b :: rest) pos) (cE X.K (qAndV qa qb)) := PE.wk (pe_and ha hb) fun σ H KQ h => by
  obtain ⟨ρ, G, Q, e, a, q, f⟩ := h
  refine ⟨ρ, G, _, e, a, q, fun v H1 t G1 k1 a1 r1 q1 => ?_⟩
  cases t with
  | bl b =>
    refine ⟨b, r1, ?_⟩
    cases b with
    | true => exact ⟨ρ, G1, Q, e.mono k1, a1, q1.1 rfl, f.from k1⟩
    | false => exact f (.bl false) H1 (.bl false) G1 k1 a1 rfl (q1.2 rfl)
  | _ => exact q1.elim
theorem e_or (ha : PE X a (cE X.K qa)) (hb : PE X (.BoolOp .Or (b :: rest) pos) (cE X.K qb)) : PE X (.BoolOp .Or (a :: b :: rest) pos) (cE X.K (qOrV qa qb)) := PE.wk (pe_or ha hb) fun σ H KQ h => by
  obtain ⟨ρ, G, Q, e, a, q, f⟩ := h
  refine ⟨ρ, G, _, e, a, q, fun v H1 t G1 k1 a1 r1 q1 => ?_⟩
  cases t with
  | bl b =>
    refine ⟨b, r1, ?_⟩
    cases b with
    | true => exact f (.bl true) H1 (.bl true) G1 k1 a1 rfl (q1.1 rfl)
    | false => exact ⟨ρ, G1, Q, e.mono k1, a1, q1.2 rfl, f.from k1⟩
  | _ => exact q1.elim
theorem e_not (ha : PE X a (cE X.K qa)) : PE X (.UnaryOp .Not a pos) (cE X.K (qNotV qa)) := PE.wk (pe_not ha) fun σ H KQ h => by
  obtain ⟨ρ, G, Q, e, a, q, f⟩ := h
  refine ⟨ρ, G, _, e, a, q, fun v H1 t G1 k1 a1 r1 q1 => ?_⟩
  cases t with
  | bl b => exact ⟨b, r1, f (.bl !b) H1 (.bl !b) G1 k1 a1 rfl q1⟩
  | _ => exact q1.elim
def qIf (t : QT) (qa qb : QE) : QE := fun ρ G Q => t ρ G fun c G1 => (c = true → qa ρ G1 Q) ∧ (c = false → qb ρ G1 Q)
theorem e_if (hc : PT X c (cT X.K tA)) (ha : PE X a (cE X.K qa)) (hb : PE X b (cE X.K qb)) : PE X (.IfExp c a b pos) (cE X.K (qIf tA qa qb)) := PE.wk (pe_ifExp hc ha hb) fun σ H KQ h => by
  obtain ⟨ρ, G, Q, e, a, q, f⟩ := h
  refine ⟨ρ, G, _, e, a, q, fun b H1 G1 k1 a1 q1 => ?_⟩
  cases b with
  | true => exact ⟨ρ, G1, Q, e.mono k1, a1, q1.1 rfl, f.from k1⟩
  | false => exact ⟨ρ, G1, Q, e.mono k1, a1, q1.2 rfl, f.from k1⟩
end
end Lw

set_option Elab.async false
set_option linter.all false
set_option maxRecDepth 100000
set_option maxHeartbeats 4000000
namespace Lw
open PySem PySem.Spec PyProof.Rows L2

/-! ### operators by value -/
def MulOk (i j : Int) : Prop := ∃ a b : Nat, i.natAbs < 2 ^ a ∧ j.natAbs < 2 ^ b ∧ a + b ≤ 900000
def DivOk (j : Int) : Prop := 0 < j ∧ ∃ b : Nat, j.natAbs < 2 ^ b ∧ b ≤ 8999
theorem pow_up {a : Nat} {x : Nat} (h : x < 2 ^ a) : x < 2 ^ (a + 1) := Nat.lt_of_lt_of_le h (Nat.pow_le_pow_right (by decide) (Nat.le_succ a))
theorem MulOk.w {i j : Int} (h : MulOk i j) : CMulW i j := by
  obtain ⟨a, b, h1, h2, h3⟩ := h
  exact wide_mul (pow_up h1) (pow_up h2) (Nat.succ_pos _) (Nat.succ_pos _) (by omega)
theorem DivOk.w {j : Int} (h : DivOk j) (i : Int) : CDivW i j := by
  obtain ⟨h0, b, h1, h2⟩ := h
  exact wide_div h0 (pow_up h1) (Nat.succ_pos _) (by omega)
def fAdd : Q2 := fun x y G Q => match x, y with
  | .int i, .int j => Q (.int (i + j)) G
  | .tup xs, .tup ys => xs.length + ys.length ≤ 100000 ∧ Q (.tup (xs ++ ys)) G
  | .str i, .str j => i.length + j.length ≤ 100000 ∧ Q (.str (i ++ j)) G
  | .ref a, .ref b => ∃ xs ys, G a = some (.lst xs) ∧ G b = some (.lst ys) ∧ xs.length + ys.length ≤ 100000 ∧ ∀ p, G p = none → Q (.ref p) (gput G p (.lst (xs ++ ys)))
  | _, _ => False
def fSub : Q2 := fun x y G Q => match x, y with
  | .int i, .int j => Q (.int (i - j)) G
  | _, _ => False
def fMul : Q2 := fun x y G Q => match x, y with
  | .int i, .int j => MulOk i j ∧ Q (.int (i * j)) G
  | _, _ => False
def fMod : Q2 := fun x y G Q => match x, y with
  | .int i, .int j => 0 < j ∧ Q (.int (i % j)) G
  | _, _ => False
def fDiv : Q2 := fun x y G Q => match x, y with
  | .int i, .int j => DivOk j ∧ Q (.int (i / j)) G
  | _, _ => False
/-- a written power -/
def fPow : Q2 := fun x y G Q => match x, y with
  | .int i, .int j => CPow i j ∧ Q (.int (i ^ j.toNat)) G
  | _, _ => False
def fLt : Q2 := fun x y G Q => match x, y with
  | .int i, .int j => Q (.bl (decide (i < j))) G
  | .str i, .str j => Q (.bl (decide (i.cps.toList < j.cps.toList))) G
  | _, _ => False
def fLe : Q2 := fun x y G Q => match x, y with
  | .int i, .int j => Q (.bl (decide (i ≤ j))) G
  | _, _ => False
def fGt : Q2 := fun x y G Q => match x, y with
  | .int i, .int j => Q (.bl (decide (j < i))) G
  | _, _ => False
def fGe : Q2 := fun x y G Q => match x, y with
  | .int i, .int j => Q (.bl (decide (j ≤ i))) G
  | _, _ => False
section
variable {X : Cx}
theorem o_int {f : Value → Value → Sem Value} {C : Int → Int → Prop} {g : Int → Int → V} {q : Q2} (h : OpR X f (rI C g)) (gt : Int → Int → T) (hg : ∀ H i j, Rp X.K H (gt i j) (g i j))
    (hq : ∀ x y G Q, q x y G Q → ∃ i j, x = .int i ∧ y = .int j ∧ C i j ∧ Q (gt i j) G) : OpR X f (c2 X.K q) := by
  intro pins s σ H v w u u' KQ I rv rw' h2
  obtain ⟨x, y, G, Q, hx, hy, ha, hf, hk⟩ := h2
  obtain ⟨i, j, rfl, rfl, hc, hQ⟩ := hq _ _ _ _ hf
  exact h pins s σ H v w u u' KQ I rv rw' ⟨i, j, hx, hy, hc, hk _ H _ G (Tups.refl H) ha (hg H i j) hQ⟩
theorem rI_of {f : Value → Value → Sem Value} {g : Int → Int → V} (h : OpR X f (rI0 g)) : OpR X f (rI (fun _ _ => True) g) := fun pins s σ H v w u u' KQ I rv rw' ⟨i, j, a, b, _, q⟩ => h pins s σ H v w u u' KQ I rv rw' ⟨i, j, a, b, q⟩
theorem o_sub : OpR X (binaryOp .Sub) (c2 X.K fSub) := o_int (rI_of op_sub) (fun i j => .int (i - j)) (fun _ _ _ => rfl) fun x y G Q h => by
  unfold fSub at h
  split at h
  · exact ⟨_, _, rfl, rfl, trivial, h⟩
  · exact h.elim
theorem o_mul0 : OpR X (binaryOp .Mult) (c2 X.K fMul) := o_int op_mulW (fun i j => .int (i * j)) (fun _ _ _ => rfl) fun x y G Q h => by
  unfold fMul at h
  split at h
  · exact ⟨_, _, rfl, rfl, h.1.w, h.2⟩
  · exact h.elim
theorem o_mod : OpR X (binaryOp .Mod) (c2 X.K fMod) := o_int op_mod (fun i j => .int (i % j)) (fun _ _ _ => rfl) fun x y G Q h => by
  unfold fMod at h
  split at h
  · exact ⟨_, _, rfl, rfl, h.1, h.2⟩
  · exact h.elim
theorem o_div : OpR X (binaryOp .FloorDiv) (c2 X.K fDiv) := o_int op_fdivW (fun i j => .int (i / j)) (fun _ _ _ => rfl) fun x y G Q h => by
  unfold fDiv at h
  split at h
  · exact ⟨_, _, rfl, rfl, h.1.w _, h.2⟩
  · exact h.elim
theorem o_pow : OpR X (binaryOp .Pow) (c2 X.K fPow) := o_int op_pow (fun i j => .int (i ^ j.toNat)) (fun _ _ _ => rfl) fun x y G Q h => by
  unfold fPow at h
  split at h
  · exact ⟨_, _, rfl, rfl, h.1, h.2⟩
  · exact h.elim
theorem o_lt : OpR X (compareOp .Lt) (c2 X.K fLt) := by
  intro pins s σ H v w u u' KQ I rv rw' h2
  obtain ⟨x, y, G, Q, hx, hy, ha, hf, hk⟩ := h2
  unfold fLt at hf
  split at hf
  · exact op_lt pins s σ H v w u u' KQ I rv rw' ⟨_, _, hx, hy, hk _ H _ G (Tups.refl H) ha (show Rp X.K H (.bl _) (.bl _) from rfl) hf⟩
  · exact op_lt_str pins s σ H v w u u' KQ I rv rw' ⟨_, _, hx, hy, hk _ H _ G (Tups.refl H) ha (show Rp X.K H (.bl _) (.bl _) from rfl) hf⟩
  · exact hf.elim
theorem o_le : OpR X (compareOp .LtE) (c2 X.K fLe) := o_int (rI_of op_le) (fun i j => .bl (decide (i ≤ j))) (fun _ _ _ => rfl) fun x y G Q h => by
  unfold fLe at h
  split at h
  · exact ⟨_, _, rfl, rfl, trivial, h⟩
  · exact h.elim
theorem o_gt : OpR X (compareOp .Gt) (c2 X.K fGt) := o_int (rI_of op_gt) (fun i j => .bl (decide (j < i))) (fun _ _ _ => rfl) fun x y G Q h => by
  unfold fGt at h
  split at h
  · exact ⟨_, _, rfl, rfl, trivial, h⟩
  · exact h.elim
theorem o_ge : OpR X (compareOp .GtE) (c2 X.K fGe) := o_int (rI_of op_ge) (fun i j => .bl (decide (j ≤ i))) (fun _ _ _ => rfl) fun x y G Q h => by
  unfold fGe at h
  split at h
  · exact ⟨_, _, rfl, rfl, trivial, h⟩
  · exact h.elim
theorem o_add : OpR X (binaryOp .Add) (c2 X.K fAdd) := by
  intro pins s σ H v w u u' KQ I rv rw' h2
  obtain ⟨x, y, G, Q, hx, hy, ha, hf, hk⟩ := h2
  unfold fAdd at hf
  split at hf
  · exact op_add pins s σ H v w u u' KQ I rv rw' ⟨_, _, hx, hy, hk _ H _ G (Tups.refl H) ha (show Rp X.K H (.int _) (.int _) from rfl) hf⟩
  · obtain ⟨p, vs, rfl, hp, r⟩ := hx
    obtain ⟨q, ws, rfl, hq, r'⟩ := hy
    rename_i xs ys
    refine op_catA pins s σ H _ _ u u' KQ I rv rw' ⟨p, q, vs, ws, rfl, rfl, SqT.of hp, SqT.of hq, by rw [r.length, r'.length]; exact sz100 hf.1, fun e => ?_, fun e1 e2 => ?_, fun e1 e2 l hl => ?_⟩
    · subst e
      have e0 : xs = [] := List.eq_nil_of_length_eq_zero r.length.symm
      subst e0
      exact hk _ H _ G (Tups.refl H) ha (show Rp X.K H (.tup ([] ++ ys)) _ from ⟨q, ws, rfl, hq, r'⟩) hf.2
    · subst e2
      have e0 : ys = [] := List.eq_nil_of_length_eq_zero r'.length.symm
      subst e0
      have hf2 := hf.2
      rw [List.append_nil] at hf2
      exact hk _ H _ G (Tups.refl H) ha (show Rp X.K H (.tup xs) _ from ⟨p, vs, rfl, hp, r⟩) hf2
    · have k : Tups H (upd H l (.tup (vs ++ ws))) := Tups.new hl
      exact hk _ _ _ G k (ha.grow hl) (show Rp X.K _ (.tup (xs ++ ys)) _ from ⟨l, _, rfl, upd_same, (r.append r').mono k⟩) hf.2
  · exact op_add_str pins s σ H v w u u' KQ I rv rw' ⟨_, _, hx, hy, sz100 hf.1, hk _ H _ G (Tups.refl H) ha (show Rp X.K H (.str _) (.str _) from rfl) hf.2⟩
  · obtain ⟨xs, ys, ga, gb, hz, hf⟩ := hf
    cases hx
    cases hy
    obtain ⟨vs, hp, r⟩ := ha _ _ ga
    obtain ⟨ws, hq, r'⟩ := ha _ _ gb
    refine op_cat pins s σ H _ _ u u' KQ I rv rw' ⟨_, _, vs, ws, rfl, rfl, hp, hq, by rw [r.length, r'.length]; exact sz100 hz, fun l hl => ?_⟩
    have k : Tups H (upd H l (.lst (vs ++ ws))) := Tups.new hl
    exact hk _ _ _ _ k (ha.put (o := .lst (xs ++ ys)) ⟨fun xs z => (by rw [hl] at z; cases z), fun o xs z => (by rw [hl] at z; cases z)⟩ ⟨_, upd_same, (r.append r').mono k⟩) (show Rp X.K _ (.ref l) _ from rfl) (hf l (ha.free hl))
  · exact hf.elim
end

/-! ### subscripts -/
/-- a written index of a tuple or list: it computes -/
def fIxC : Q2 := fun x y G Q => match x, y with
  | .tup ts, .int (.ofNat n) => (match nth ts n with | some t => Q t G | none => False)
  | .ref a, .int (.ofNat n) => ∃ ts, G a = some (.lst ts) ∧ (match nth ts n with | some t => Q t G | none => False)
  | _, _ => False
def fIx : Q2 := fun x y G Q => match x, y with
  | .tup ts, .int i => ∃ n t, ixN ts.length i = some n ∧ ts[n]? = some t ∧ Q t G
  | .ref a, .int i => ∃ ts n t, G a = some (.lst ts) ∧ ixN ts.length i = some n ∧ ts[n]? = some t ∧ Q t G
  | .scr ns, .int i => ∃ n m, ixN ns.length i = some n ∧ ns[n]? = some m ∧ Q (.int m) G
  | _, _ => False
theorem nth_get {α : Type} : ∀ {l : List α} {n : Nat}, nth l n = l[n]?
  | [], n => by simp [nth]
  | a :: l, 0 => rfl
  | a :: l, n + 1 => by simp only [nth, List.getElem?_cons_succ]; exact nth_get
theorem RpL.atI {K : PySem.W.Frag} {H : Hp} {ts : List T} {vs : List V} {i : Int} {n : Nat} {t : T} (r : RpL K H ts vs) (h : ixN ts.length i = some n) (e : ts[n]? = some t) : ∃ v, L2.atI vs i = some v ∧ Rp K H t v := by
  obtain ⟨v, h1, h2⟩ := r.at e
  refine ⟨v, ?_, h2⟩
  unfold L2.atI
  rw [r.length, h]
  exact h1
theorem ixN_nat {n len : Nat} (h : n < len) : ixN len (Int.ofNat n) = some n := by
  show ixN len ((n : Nat) : Int) = some n
  unfold ixN
  rw [if_pos (Int.natCast_nonneg n), if_pos (show ((n : Nat) : Int) < (len : Int) from Int.ofNat_lt.mpr h)]
  rfl
section
variable {X : Cx}
theorem scr_sq {K : PySem.W.Frag} {H : Hp} {ns : List Int} {v : V} (h : Rp K H (.scr ns) v) : ∃ a, v = .ref a ∧ SqL K H a (ns.map V.int) := by
  obtain ⟨a, e, h⟩ := h
  exact ⟨a, e, h.imp (fun ⟨o, q⟩ => .inr ⟨o, q⟩) id⟩
theorem i_ix : IxR X (c2 X.K fIx) := by
  intro value slice pins s σ H v w u u' KQ I rv rw' h2 hs
  obtain ⟨x, y, G, Q, hx, hy, ha, hf, hk⟩ := h2
  unfold fIx at hf
  split at hf
  · obtain ⟨n, t, h1, h2, hf⟩ := hf
    obtain ⟨p, vs, rfl, hp, r⟩ := hx
    obtain ⟨z, hz, rz⟩ := r.atI h1 h2
    exact ix_tup value slice pins s σ H _ _ u u' KQ I rv rw' ⟨p, vs, _, z, rfl, hy, SqT.of hp, hz, hk _ H _ G (Tups.refl H) ha rz hf⟩ hs
  · obtain ⟨ts, n, t, hg, h1, h2, hf⟩ := hf
    cases hx
    obtain ⟨vs, hp, r⟩ := ha _ _ hg
    obtain ⟨z, hz, rz⟩ := r.atI h1 h2
    exact ix_list value slice pins s σ H _ _ u u' KQ I rv rw' ⟨_, vs, _, z, rfl, hy, SqL.of hp, hz, hk _ H _ G (Tups.refl H) ha rz hf⟩ hs
  · obtain ⟨n, m, h1, h2, hf⟩ := hf
    obtain ⟨a, rfl, hq⟩ := scr_sq hx
    refine ix_list value slice pins s σ H _ _ u u' KQ I rv rw' ⟨_, _, _, .int m, rfl, hy, hq, ?_, hk _ H (.int m) G (Tups.refl H) ha rfl hf⟩ hs
    unfold L2.atI
    rw [List.length_map, h1]
    simp [h2]
  · exact hf.elim
theorem i_ixC : IxR X (c2 X.K fIxC) := by
  intro value slice pins s σ H v w u u' KQ I rv rw' h2 hs
  obtain ⟨x, y, G, Q, hx, hy, ha, hf, hk⟩ := h2
  refine i_ix value slice pins s σ H v w u u' KQ I rv rw' ⟨x, y, G, Q, hx, hy, ha, ?_, hk⟩ hs
  unfold fIxC at hf
  split at hf
  · rename_i ts n
    split at hf
    · rename_i t h
      rw [nth_get] at h
      exact ⟨n, t, ixN_nat (List.getElem?_eq_some_iff.mp h).1, h, hf⟩
    · exact hf.elim
  · rename_i a n
    obtain ⟨ts, hg, hf⟩ := hf
    split at hf
    · rename_i t h
      rw [nth_get] at h
      exact ⟨ts, n, t, hg, ixN_nat (List.getElem?_eq_some_iff.mp h).1, h, hf⟩
    · exact hf.elim
  · exact hf.elim
end

/-! ### calls of built-ins -/
def qCB (f : QC) (qa : QA) : QE := fun ρ G Q => qa ρ G fun ts G1 => f ts G1 Q
section
variable {X : Cx} {x : Str} {p pos : Pos} {e : Expr} {es : List Expr} {qa : QA} {id Ty : String} {f : QC}
theorem cb_wk : ∀ σ H KQ, cE X.K (qCB f qa) σ H KQ → tCB (cC X.K f) (cA X.K qa) σ H KQ := fun σ H KQ h => by
  obtain ⟨ρ, G, Q, e, a, q, g⟩ := h
  exact ⟨ρ, G, _, e, a, q, fun vs H1 ts G1 k1 a1 r1 q1 => ⟨ts, G1, Q, r1, a1, q1, g.from k1⟩⟩
theorem e_callB (hc : CallR X (.builtin id) (cC X.K f)) (hg : Gl X x) (hm : X.mg x = none) (hv : bootBuiltins x = some (.builtin id)) (ha : PA X (e :: es) (cA X.K qa)) (hn : x ≠ "__name__" := by decide) (hdb : (x == ("__debug__" : Str)) = false := by decide)
    (he : starEach (e :: es) X.env = (false, eval e X.env) :: starEach es X.env := by rfl) (hpl : (backTo pos (starEach es X.env)).any (·.1) = false := by rfl) : PE X (.Call (.Name x p) (e :: es) [] pos) (cE X.K (qCB f qa)) :=
  PE.wk (pe_callB hc hg hm hv ha hn hdb he hpl) cb_wk
theorem e_callTy (hc : CallR X (.type Ty) (cC X.K f)) (hg : Gl X x) (hm : X.mg x = none) (hv : bootBuiltins x = some (.type Ty)) (ha : PA X (e :: es) (cA X.K qa)) (hn : x ≠ "__name__" := by decide) (hdb : (x == ("__debug__" : Str)) = false := by decide)
    (he : starEach (e :: es) X.env = (false, eval e X.env) :: starEach es X.env := by rfl) (hpl : (backTo pos (starEach es X.env)).any (·.1) = false := by rfl) : PE X (.Call (.Name x p) (e :: es) [] pos) (cE X.K (qCB f qa)) :=
  PE.wk (pe_callTy hc hg hm hv ha hn hdb he hpl) cb_wk
end
def fLen : QC := fun ts G Q => match ts with
  | [.tup xs] => Q (.int xs.length) G
  | [.scr ns] => Q (.int ns.length) G
  | [.str x] => x.length ≤ 100000 ∧ Q (.int x.length) G
  | [.ref a] => ∃ xs, G a = some (.lst xs) ∧ Q (.int xs.length) G
  | _ => False
def fAbs : QC := fun ts G Q => match ts with
  | [.int i] => Q (.int (if i < 0 then -i else i)) G
  | _ => False
def fMin2 : QC := fun ts G Q => match ts with
  | [.int i, .int j] => Q (.int (if j < i then j else i)) G
  | _ => False
def fMax2 : QC := fun ts G Q => match ts with
  | [.int i, .int j] => Q (.int (if j > i then j else i)) G
  | _ => False
def fTuple : QC := fun ts G Q => match ts with
  | [.ref a] => ∃ xs, G a = some (.lst xs) ∧ Q (.tup xs) G
  | [.tup xs] => Q (.tup xs) G
  | _ => False
def fList : QC := fun ts G Q => match ts with
  | [.ref a] => ∃ xs, G a = some (.lst xs) ∧ ∀ p, G p = none → Q (.ref p) (gput G p (.lst xs))
  | [.tup xs] => ∀ p, G p = none → Q (.ref p) (gput G p (.lst xs))
  | _ => False
section
variable {X : Cx}
theorem rpl1 {K : PySem.W.Frag} {H : Hp} {t : T} {vs : List V} (h : RpL K H [t] vs) : ∃ v, vs = [v] ∧ Rp K H t v := by
  obtain ⟨v, r, e, h, hr⟩ := h
  rw [show r = [] from hr] at e
  exact ⟨v, e, h⟩
theorem rpl2 {K : PySem.W.Frag} {H : Hp} {t u : T} {vs : List V} (h : RpL K H [t, u] vs) : ∃ v w, vs = [v, w] ∧ Rp K H t v ∧ Rp K H u w := by
  obtain ⟨v, r, e, h, hr⟩ := h
  obtain ⟨w, rfl, h2⟩ := rpl1 hr
  exact ⟨v, w, e, h, h2⟩
theorem b_len : CallR X (.builtin "len") (cC X.K fLen) := by
  intro pins s σ H vs us KQ I r h
  obtain ⟨ts, G, Q, hr, ha, hf, hk⟩ := h
  unfold fLen at hf
  split at hf
  · obtain ⟨v, rfl, h1⟩ := rpl1 hr
    obtain ⟨p, ws, rfl, hp, rr⟩ := h1
    exact call_len pins s σ H _ us KQ I r ⟨_, ws.length, rfl, .inr ⟨ws, SqT.of hp, rfl⟩, hk _ H (.int _) G (Tups.refl H) ha (by rw [rr.length]; rfl) hf⟩
  · obtain ⟨v, rfl, h1⟩ := rpl1 hr
    obtain ⟨a, rfl, hq⟩ := scr_sq h1
    exact call_len pins s σ H _ us KQ I r ⟨_, _, rfl, .inl ⟨_, hq, rfl⟩, hk _ H (.int _) G (Tups.refl H) ha (by rw [List.length_map]; rfl) hf⟩
  · obtain ⟨v, rfl, h1⟩ := rpl1 hr
    cases h1
    exact call_len pins s σ H _ us KQ I r ⟨_, _, rfl, ⟨sz100 hf.1, rfl⟩, hk _ H (.int _) G (Tups.refl H) ha rfl hf.2⟩
  · obtain ⟨v, rfl, h1⟩ := rpl1 hr
    cases h1
    obtain ⟨xs, hg, hf⟩ := hf
    obtain ⟨ws, hp, rr⟩ := ha _ _ hg
    exact call_len pins s σ H _ us KQ I r ⟨_, ws.length, rfl, .inl ⟨ws, SqL.of hp, rfl⟩, hk _ H (.int _) G (Tups.refl H) ha (by rw [rr.length]; rfl) hf⟩
  · exact hf.elim
theorem b_abs : CallR X (.builtin "abs") (cC X.K fAbs) := by
  intro pins s σ H vs us KQ I r h
  obtain ⟨ts, G, Q, hr, ha, hf, hk⟩ := h
  unfold fAbs at hf
  split at hf
  · obtain ⟨v, rfl, h1⟩ := rpl1 hr
    cases h1
    exact call_abs pins s σ H _ us KQ I r ⟨_, rfl, hk _ H (.int _) G (Tups.refl H) ha rfl hf⟩
  · exact hf.elim
theorem b_min2 (hc : X.calm = true) : CallR X (.builtin "min") (cC X.K fMin2) := by
  intro pins s σ H vs us KQ I r h
  obtain ⟨ts, G, Q, hr, ha, hf, hk⟩ := h
  unfold fMin2 at hf
  split at hf
  · obtain ⟨v, w, rfl, h1, h2⟩ := rpl2 hr
    cases h1; cases h2
    exact call_min2 hc pins s σ H _ us KQ I r ⟨_, _, rfl, hk _ H (.int _) G (Tups.refl H) ha rfl hf⟩
  · exact hf.elim
theorem b_max2 (hc : X.calm = true) : CallR X (.builtin "max") (cC X.K fMax2) := by
  intro pins s σ H vs us KQ I r h
  obtain ⟨ts, G, Q, hr, ha, hf, hk⟩ := h
  unfold fMax2 at hf
  split at hf
  · obtain ⟨v, w, rfl, h1, h2⟩ := rpl2 hr
    cases h1; cases h2
    exact call_max2 hc pins s σ H _ us KQ I r ⟨_, _, rfl, hk _ H (.int _) G (Tups.refl H) ha rfl hf⟩
  · exact hf.elim
theorem b_tuple : CallR X (.type "tuple") (cC X.K fTuple) := by
  intro pins s σ H vs us KQ I r h
  obtain ⟨ts, G, Q, hr, ha, hf, hk⟩ := h
  unfold fTuple at hf
  split at hf
  · obtain ⟨v, rfl, h1⟩ := rpl1 hr
    cases h1
    obtain ⟨xs, hg, hf⟩ := hf
    obtain ⟨ws, hp, rr⟩ := ha _ _ hg
    refine call_tuple_of pins s σ H _ us KQ I r ⟨_, ws, rfl, .inl ⟨SqL.of hp, fun l hl => ?_⟩⟩
    have k : Tups H (upd H l (.tup ws)) := Tups.new hl
    exact hk _ _ (.tup xs) G k (ha.grow hl) ⟨l, ws, rfl, upd_same, rr.mono k⟩ hf
  · obtain ⟨v, rfl, h1⟩ := rpl1 hr
    obtain ⟨p, ws, rfl, hp, rr⟩ := id h1
    exact call_tuple_of pins s σ H _ us KQ I r ⟨_, ws, rfl, .inr ⟨SqT.of hp, hk _ H _ G (Tups.refl H) ha h1 hf⟩⟩
  · exact hf.elim
theorem b_list : CallR X (.type "list") (cC X.K fList) := by
  intro pins s σ H vs us KQ I r h
  obtain ⟨ts, G, Q, hr, ha, hf, hk⟩ := h
  unfold fList at hf
  split at hf
  · obtain ⟨v, rfl, h1⟩ := rpl1 hr
    cases h1
    obtain ⟨xs, hg, hf⟩ := hf
    obtain ⟨ws, hp, rr⟩ := ha _ _ hg
    refine call_list_of pins s σ H _ us KQ I r ⟨_, ws, rfl, .inl (SqL.of hp), fun l hl => ?_⟩
    have k : Tups H (upd H l (.lst ws)) := Tups.new hl
    exact hk _ _ _ _ k (ha.put (o := .lst xs) ⟨fun xs z => (by rw [hl] at z; cases z), fun o xs z => (by rw [hl] at z; cases z)⟩ ⟨_, upd_same, rr.mono k⟩) (show Rp X.K _ (.ref l) _ from rfl) (hf l (ha.free hl))
  · obtain ⟨v, rfl, h1⟩ := rpl1 hr
    obtain ⟨p, ws, rfl, hp, rr⟩ := id h1
    refine call_list_of pins s σ H _ us KQ I r ⟨_, ws, rfl, .inr (SqT.of hp), fun l hl => ?_⟩
    have k : Tups H (upd H l (.lst ws)) := Tups.new hl
    exact hk _ _ _ _ k (ha.put (o := .lst _) ⟨fun xs z => (by rw [hl] at z; cases z), fun o xs z => (by rw [hl] at z; cases z)⟩ ⟨_, upd_same, rr.mono k⟩) (show Rp X.K _ (.ref l) _ from rfl) (hf l (ha.free hl))
  · exact hf.elim
end

/-! ### calls of defs -/
abbrev X0 : XQ := fun _ _ _ => False
def qCall (sp : QSp) (qa : QA) : QE := fun ρ G Q => qa ρ G fun ts G1 => sp ts G1 Q X0
section
variable {X : Cx} {CX : CXT} {k : Nat} {f : Addr} {fd : FuncData} {ps : List Str} {sp : QSp} {x : Str} {p pos : Pos} {e : Expr} {es : List Expr} {qa : QA}
theorem folx0 {K : PySem.W.Frag} {H : Hp} : FolX K H X0 E0 := fun _ _ _ _ _ _ _ _ z => z.elim
theorem e_call (F : FnOk X.prog X.w X.K X.mg X.base CX k f fd ps (cSp X.K sp)) (hr : Room k X.A) (hg : Gl X x) (hm : X.mg x = some (.ref f)) (hk : PySem.W.keepIn X.K (.ref f) = true) (hb : Binds X.K fd ps []) (hx : Passes CX X E0)
    (ha : PA X (e :: es) (cA X.K qa)) (hdb : (x == ("__debug__" : Str)) = false := by decide) (he : starEach (e :: es) X.env = (false, eval e X.env) :: starEach es X.env := by rfl) (hpl : (backTo pos (starEach es X.env)).any (·.1) = false := by rfl) :
    PE X (.Call (.Name x p) (e :: es) [] pos) (cE X.K (qCall sp qa)) := PE.wk (pe_call F hr hg hm hk hb .nil hx ha hdb he hpl) fun σ H KQ h => by
  obtain ⟨ρ, G, Q, e, a, q, g⟩ := h
  refine ⟨ρ, G, _, e, a, q, fun vs H1 ts G1 k1 a1 r1 q1 => ?_⟩
  exact ⟨ts, G1, Q, X0, by rw [List.append_nil]; exact r1, a1, q1, g.from k1, folx0⟩
end

/-! ### statements -/
section
variable {X : Cx} {st : Stmt} {rest : List Stmt} {q1 q2 : QS} {e : Expr} {qe : QE} {pos : Pos}
def qNext : QS := fun D ρ G => D.nx ρ G
def qSeq (t u : QS) : QS := fun D ρ G => t { D with nx := u D } ρ G
theorem ss_nil : PSs X [] (cS X.K qNext) := PSs.wk pss_nil fun D σ H h => by
  obtain ⟨ρ, G, D', e, a, q, f⟩ := h
  exact f.nx σ H ρ G (Tups.refl H) e a q
theorem ss_cons (h1 : PS X st (cS X.K q1)) (h2 : PSs X rest (cS X.K q2)) : PSs X (st :: rest) (cS X.K (qSeq q1 q2)) := PSs.wk (pss_cons h1 h2) fun D σ H h => by
  obtain ⟨ρ, G, D', e, a, q, f⟩ := h
  exact ⟨ρ, G, _, e, a, q, ⟨fun σ' H' ρ' G' k e' a' q' => ⟨ρ', G', D', e', a', q', f.from k⟩, f.rt, f.bk, f.ct⟩⟩
theorem ss_one (h1 : PS X st (cS X.K q1)) : PSs X [st] (cS X.K q1) := pss_one h1
def qNever : QS := fun _ _ _ => False
theorem s_never : PS X st (cS X.K qNever) := PS.wk ps_never fun D σ H h => by
  obtain ⟨ρ, G, D', e, a, q, f⟩ := h
  exact q
theorem ss_never {sts : List Stmt} : PSs X sts (cS X.K qNever) := PSs.wk pss_never fun D σ H h => by
  obtain ⟨ρ, G, D', e, a, q, f⟩ := h
  exact q
theorem s_pass : PS X (.Pass pos) (cS X.K qNext) := PS.wk ps_pass fun D σ H h => by
  obtain ⟨ρ, G, D', e, a, q, f⟩ := h
  exact f.nx σ H ρ G (Tups.refl H) e a q
def qDrop (qe : QE) : QS := fun D ρ G => qe ρ G fun _ G1 => D.nx ρ G1
theorem s_expr (he : PE X e (cE X.K qe)) (hs : swapsWith e none pos.line X.env = pure false := by rfl) : PS X (.Expr e pos) (cS X.K (qDrop qe)) := PS.wk (ps_expr he hs) fun D σ H h => by
  obtain ⟨ρ, G, D', e, a, q, f⟩ := h
  exact ⟨ρ, G, _, e, a, q, fun v H1 t G1 k1 a1 _ q1 => f.nx σ H1 ρ G1 k1 (e.mono k1) a1 q1⟩
def qRet (qe : QE) : QS := fun D ρ G => qe ρ G D.rt
theorem s_ret (he : PE X e (cE X.K qe)) : PS X (.Return (some e) pos) (cS X.K (qRet qe)) := PS.wk (ps_ret he) fun D σ H h => by
  obtain ⟨ρ, G, D', e, a, q, f⟩ := h
  exact ⟨ρ, G, _, e, a, q, f.rt⟩
def qRetN : QS := fun D _ G => D.rt .non G
theorem s_retN : PS X (.Return none pos) (cS X.K qRetN) := PS.wk ps_retN fun D σ H h => by
  obtain ⟨ρ, G, D', e, a, q, f⟩ := h
  exact f.rt _ H .non G (Tups.refl H) a rfl q
def qIfS (c : QT) (t u : QS) : QS := fun D ρ G => c ρ G fun b G1 => (b = true → t D ρ G1) ∧ (b = false → u D ρ G1)
theorem s_if {c : Expr} {a b : List Stmt} {qc : QT} (hc : PT X c (cT X.K qc)) (ha : PSs X a (cS X.K q1)) (hb : PSs X b (cS X.K q2)) : PS X (.If c a b pos) (cS X.K (qIfS qc q1 q2)) := PS.wk (ps_if hc ha hb) fun D σ H h => by
  obtain ⟨ρ, G, D', e, a, q, f⟩ := h
  refine ⟨ρ, G, _, e, a, q, fun b H1 G1 k1 a1 q1 => ?_⟩
  cases b with
  | true => exact ⟨ρ, G1, D', e.mono k1, a1, q1.1 rfl, f.from k1⟩
  | false => exact ⟨ρ, G1, D', e.mono k1, a1, q1.2 rfl, f.from k1⟩

/-! targets -/
variable {own : List Nat} {tg : Expr} {qg : QG} {qgs : QGs} {es : List Expr}
def gNm (i : Nat) : QG := fun t ρ G Q => putK ρ i (some t) fun ρ' => Q ρ' G
theorem wipe_go {i : Nat} {w : Option V} : ∀ (vs : List Nat) (σ : L2.St), wipe (σ.set i w) vs = (wipe σ vs).set i w ∨ wipe (σ.set i w) vs = wipe σ vs := by
  intro vs
  induction vs with
  | nil => intro σ; exact .inl rfl
  | cons u us ih =>
    intro σ
    show ((wipe (σ.set i w) us).set u none = ((wipe σ us).set u none).set i w) ∨ ((wipe (σ.set i w) us).set u none = (wipe σ us).set u none)
    rcases ih σ with e | e
    · rw [e]
      by_cases hu : u = i
      · subst hu
        right
        rw [List.set_set]
      · left
        rw [List.set_comm _ _ (Ne.symm hu)]
    · right; rw [e]
theorem wipe_wipe {σ : L2.St} : ∀ {vs : List Nat}, wipe (wipe σ vs) vs = wipe σ vs := by
  intro vs
  induction vs with
  | nil => rfl
  | cons v us ih =>
    show (wipe ((wipe σ us).set v none) us).set v none = (wipe σ us).set v none
    rcases wipe_go (i := v) (w := none) us (wipe σ us) with e | e
    · rw [e, List.set_set, ih]
    · rw [e, ih]
theorem wipe_set {σ : L2.St} {i : Nat} {w : Option V} : ∀ {vs : List Nat}, i ∈ vs → wipe (σ.set i w) vs = wipe σ vs
  | [], h => absurd h (by simp)
  | v :: vs, h => by
    show (wipe (σ.set i w) vs).set v none = (wipe σ vs).set v none
    by_cases hv : i = v
    · subst hv
      rcases wipe_go (i := i) (w := w) vs σ with e | e
      · rw [e, List.set_set]
      · rw [e]
    · have hm : i ∈ vs := by
        rcases List.mem_cons.mp h with z | z
        · exact absurd z hv
        · exact z
      rw [wipe_set hm]
theorem g_name {i : Nat} {x : Str} (hN : X.N.Nodup) (hi : X.N[i]? = some x) (hx : Loc X.env.scope x) (ho : i ∈ own := by decide) (hf : X.fn x = true ∨ X.env.scope.names.lookup x = some .local := by first | exact .inl rfl | exact .inr rfl | assumption) :
    PG X (.Name x pos) (cG X.K own (gNm i)) := PG.wk (pg_name hN hi hx hf) fun v σ H KQ h => by
  obtain ⟨t, ρ, G, Q, r, e, a, q, f⟩ := h
  exact f _ H _ G (wipe_set ho) (Tups.refl H) (e.put r i) a (putK_put q)
def gsNil : QGs := fun ts ρ G Q => match ts with | [] => Q ρ G | _ => False
def gsCons (t : QG) (u : QGs) : QGs := fun ts ρ G Q => match ts with | x :: r => t x ρ G fun ρ' G' => u r ρ' G' Q | _ => False
theorem gs_nil : PGs X [] (cGs X.K own gsNil) := PGs.wk pgs_nil fun vs σ H KQ h => by
  obtain ⟨ts, ρ, G, Q, r, e, a, q, f⟩ := h
  unfold gsNil at q
  split at q
  · exact ⟨r, f _ H _ G rfl (Tups.refl H) e a q⟩
  · exact q.elim
theorem gs_cons (h1 : PG X e (cG X.K own qg)) (h2 : PGs X es (cGs X.K own qgs)) (hs : (assignEach (e :: es) X.env).map (·.2) = assign e X.env :: (assignEach es X.env).map (·.2) := by rfl) : PGs X (e :: es) (cGs X.K own (gsCons qg qgs)) :=
  PGs.wk (pgs_cons h1 h2 hs) fun vs σ H KQ h => by
    obtain ⟨ts, ρ, G, Q, r, e, a, q, f⟩ := h
    unfold gsCons at q
    split at q
    · obtain ⟨v, vr, rfl, r1, r2⟩ := r
      exact ⟨v, vr, rfl, _, ρ, G, _, r1, e, a, q, fun σ' H' ρ' G' w1 k1 e1 a1 q1 => ⟨_, ρ', G', Q, r2.mono k1, e1, a1, q1, fun σ2 H2 ρ2 G2 w2 k2 e2 a2 q2 => f σ2 H2 ρ2 G2 (w2.trans w1) (k1.trans k2) e2 a2 q2⟩⟩
    · exact q.elim
def lenIs {α : Type} : Nat → List α → Bool
  | 0, [] => true
  | n + 1, _ :: l => lenIs n l
  | _, _ => false
theorem lenIs_len {α : Type} : ∀ {n : Nat} {l : List α}, lenIs n l = true → l.length = n
  | 0, [], _ => rfl
  | n + 1, _ :: l, h => congrArg Nat.succ (lenIs_len (n := n) (l := l) h)
  | 0, _ :: _, h => by cases h
  | _ + 1, [], h => by cases h
def gTp (n : Nat) (t : QGs) : QG := fun x ρ G Q => match x with | .tup ts => (match lenIs n ts with | true => t ts ρ G Q | false => False) | _ => False
theorem g_tup {kk : Nat} {n : Nat} (hc : X.calm = true) (h : PGs X es (cGs X.K own qgs)) (hn : (assignEach es X.env).length = n := by rfl) (hst : (assignEach es X.env).findIdx? (·.1) = none := by rfl) :
    PG X (.Tuple es kk pos) (cG X.K own (gTp n qgs)) := PG.wk (pg_tup hc h hn hst) fun v σ H KQ h => by
  obtain ⟨t, ρ, G, Q, r, e, a, q, f⟩ := h
  unfold gTp at q
  split at q
  · obtain ⟨p, vs, rfl, hp, r⟩ := r
    split at q
    · rename_i hl
      exact ⟨p, vs, rfl, SqT.of hp, by rw [r.length]; exact lenIs_len hl, _, ρ, G, Q, r, e, a, q, f⟩
    · exact q.elim
  · exact q.elim
def qAsg (qe : QE) (qg : QG) : QS := fun D ρ G => qe ρ G fun t G1 => qg t ρ G1 D.nx
theorem s_asg (he : PE X e (cE X.K qe)) (hg : PG X tg (cG X.K own qg)) (hs : swapsWithSole [tg] e pos.line X.env = pure false := by rfl) (hw : swappedStores [tg] e X.env = pure none := by rfl)
    (h1 : (assignEach [tg] X.env).map (·.2) = [assign tg X.env] := by rfl) : PS X (.Assign [tg] e pos) (cS X.K (qAsg qe qg)) := PS.wk (ps_asg he hg hs hw h1) fun D σ H h => by
  obtain ⟨ρ, G, D', e, a, q, f⟩ := h
  exact ⟨ρ, G, _, e, a, q, fun v H1 t G1 k1 a1 r1 q1 => ⟨t, ρ, G1, _, r1, e.mono k1, a1, q1, fun σ' H' ρ' G' _ k2 e2 a2 q2 => f.nx σ' H' ρ' G' (k1.trans k2) e2 a2 q2⟩⟩
theorem s_set {i : Nat} {x : Str} {pos' : Pos} (hN : X.N.Nodup) (hi : X.N[i]? = some x) (hx : Loc X.env.scope x) (he : PE X e (cE X.K qe)) (hs : swapsWith e (some (.Name x pos')) pos.line X.env = pure false := by rfl)
    (hf : X.fn x = true ∨ X.env.scope.names.lookup x = some .local := by first | exact .inl rfl | exact .inr rfl | assumption) : PS X (.Assign [.Name x pos'] e pos) (cS X.K (qAsg qe (gNm i))) := PS.wk (ps_set hN hi hx he hs hf) fun D σ H h => by
  obtain ⟨ρ, G, D', e, a, q, f⟩ := h
  exact ⟨ρ, G, _, e, a, q, fun v H1 t G1 k1 a1 r1 q1 => f.nx _ H1 _ G1 k1 ((e.mono k1).put r1 i) a1 (putK_put q1)⟩
/-- a, b = x, y, the names local: stored from the right -/
def qPar (i j : Nat) (qa : QA) : QS := fun D ρ G => qa ρ G fun ts G1 => match ts with | [v, w] => putK ρ i (some v) (fun ρ1 => putK ρ1 j (some w) fun ρ2 => D.nx ρ2 G1) | _ => False
theorem s_par {i j : Nat} {x y : Str} {a b : Expr} {qa : QA} {px py pt : Pos} {kt k2 pt2} (hc : X.calm = true) (hN : X.N.Nodup) (hi : X.N[i]? = some x) (hj : X.N[j]? = some y) (hij : i ≠ j)
    (hx : X.env.scope.names.lookup x = some .local) (hy : X.env.scope.names.lookup y = some .local) (ha : PA X [a, b] (cA X.K qa))
    (hw : swappedStores [.Tuple [.Name x px, .Name y py] kt pt] (.Tuple [a, b] k2 pt2) X.env = pure (some [x, y]))
    (hs : swapsWithSole [.Tuple [.Name x px, .Name y py] kt pt] (.Tuple [a, b] k2 pt2) pos.line X.env = pure false := by rfl) :
    PS X (.Assign [.Tuple [.Name x px, .Name y py] kt pt] (.Tuple [a, b] k2 pt2) pos) (cS X.K (qPar i j qa)) := PS.wk (ps_par hc hN hi hj hij hx hy ha hw hs) fun D σ H h => by
  obtain ⟨ρ, G, D', e, a, q, f⟩ := h
  refine ⟨ρ, G, _, e, a, q, fun vs H1 ts G1 k1 a1 r1 q1 => ?_⟩
  split at q1
  · obtain ⟨v, w, rfl, h1, h2⟩ := rpl2 r1
    exact ⟨v, w, rfl, f.nx _ H1 _ G1 k1 (((e.mono k1).put h1 i).put h2 j) a1 (putK_put (putK_put q1))⟩
  · exact q1.elim
def qPar3 (i j l : Nat) (qa : QA) : QS := fun D ρ G => qa ρ G fun ts G1 => match ts with | [u, v, w] => putK ρ i (some u) (fun ρ1 => putK ρ1 j (some v) fun ρ2 => putK ρ2 l (some w) fun ρ3 => D.nx ρ3 G1) | _ => False
theorem s_par3 {i j l : Nat} {x y z : Str} {a b c : Expr} {qa : QA} {px py pz pt pos : Pos} {kt k2 pt2} (hc : X.calm = true) (hN : X.N.Nodup) (hi : X.N[i]? = some x) (hj : X.N[j]? = some y) (hl : X.N[l]? = some z) (hij : i ≠ j) (hil : i ≠ l) (hjl : j ≠ l)
    (hx : X.env.scope.names.lookup x = some .local) (hy : X.env.scope.names.lookup y = some .local) (hz : X.env.scope.names.lookup z = some .local) (ha : PA X [a, b, c] (cA X.K qa))
    (hw : swappedStores [.Tuple [.Name x px, .Name y py, .Name z pz] kt pt] (.Tuple [a, b, c] k2 pt2) X.env = pure (some [x, y, z]))
    (hs : swapsWithSole [.Tuple [.Name x px, .Name y py, .Name z pz] kt pt] (.Tuple [a, b, c] k2 pt2) pos.line X.env = pure false := by rfl) :
    PS X (.Assign [.Tuple [.Name x px, .Name y py, .Name z pz] kt pt] (.Tuple [a, b, c] k2 pt2) pos) (cS X.K (qPar3 i j l qa)) := PS.wk (ps_par3 hc hN hi hj hl hij hil hjl hx hy hz ha hw hs) fun D σ H h => by
  obtain ⟨ρ, G, D', e, a, q, f⟩ := h
  refine ⟨ρ, G, _, e, a, q, fun vs H1 ts G1 k1 a1 r1 q1 => ?_⟩
  split at q1
  · obtain ⟨v, r, rfl, h1, r2⟩ := r1
    obtain ⟨w, z, rfl, h2, h3⟩ := rpl2 r2
    exact ⟨v, w, z, rfl, f.nx _ H1 _ G1 k1 ((((e.mono k1).put h1 i).put h2 j).put h3 l) a1 (putK_put (putK_put (putK_put q1)))⟩
  · exact q1.elim
/-! o[i] = e -/
def fSetL : T → T → T → Gp → (Gp → Prop) → Prop := fun o i v G Q => match o, i with
  | .ref a, .int k => ∃ ts n, G a = some (.lst ts) ∧ ixN ts.length k = some n ∧ Q (gput G a (.lst (ts.set n v)))
  | _, _ => False
abbrev QSet := T → T → T → Gp → (Gp → Prop) → Prop
def cSet (K : PySem.W.Frag) (f : QSet) : TSet := fun o i v H KQ => ∃ x y z G Q, Rp K H x o ∧ Rp K H y i ∧ Rp K H z v ∧ Abs K H G ∧ f x y z G Q ∧ ∀ H' G', Tups H H' → Abs K H' G' → Q G' → KQ H'
theorem set_lst : PSet X (cSet X.K fSetL) := by
  intro pins s σ H o i v ov iv u KQ I ro ri rv h
  obtain ⟨x, y, z, G, Q, hx, hy, hz, ha, hf, hk⟩ := h
  unfold fSetL at hf
  split at hf
  · obtain ⟨ts, n, hg, h1, hf⟩ := hf
    cases hx
    cases hy
    obtain ⟨vs, hp, r⟩ := ha _ _ hg
    have wr : Wr H _ := Wr.of hp (fun _ z => by cases z) (fun _ _ z => by cases z)
    have k := Tups.set (o := .lst (vs.set n v)) wr
    refine L2.set_list pins s σ H _ _ v ov iv u KQ I ro ri rv ⟨_, vs, _, n, rfl, rfl, hp, by rw [r.length]; exact h1, ?_⟩
    exact hk _ _ k (ha.put (o := .lst (ts.set n z)) wr ⟨_, upd_same, (r.set hz n).mono k⟩) hf
  · exact hf.elim
def gSb (qo qi : QE) (f : QSet) : QG := fun t ρ G Q => qo ρ G fun o G1 => qi ρ G1 fun i G2 => f o i t G2 fun G3 => Q ρ G3
theorem g_sub {o i : Expr} {qo qi : QE} {f : QSet} (ho : PE X o (cE X.K qo)) (hi : PE X i (cE X.K qi)) (hs : PSet X (cSet X.K f))
    (ha : ∀ v, assign (.Subscript o i pos) X.env v = (do
      let ov ← holding [v] (eval o X.env)
      let iv ← holding [v, ov] (eval i X.env)
      standAt pos
      holding [v, ov, iv] (setItem ov iv v)
      release [v, ov, iv] []) := by intro _; rfl) : PG X (.Subscript o i pos) (cG X.K own (gSb qo qi f)) := PG.wk (pg_sub ho hi hs ha) fun v σ H KQ h => by
  obtain ⟨t, ρ, G, Q, r, e, a, q, g⟩ := h
  refine ⟨ρ, G, _, e, a, q, fun w H1 u G1 k1 a1 r1 q1 => ?_⟩
  refine ⟨ρ, G1, _, e.mono k1, a1, q1, fun w2 H2 u2 G2 k2 a2 r2 q2 => ?_⟩
  exact ⟨u, u2, t, G2, _, r1.mono k2, r2, r.mono (k1.trans k2), a2, q2, fun H3 G3 k3 a3 q3 => g _ H3 ρ G3 rfl ((k1.trans k2).trans k3) (e.mono ((k1.trans k2).trans k3)) a3 q3⟩

/-! ### loops -/
def Wk (P : REnv → Gp → Prop) : REnv → Gp → Prop := fun ρ G => ∃ ρ1 G1, ELe ρ1 ρ ∧ Sub G1 G ∧ P ρ1 G1
theorem Wk.of {P : REnv → Gp → Prop} {ρ : REnv} {G : Gp} (h : P ρ G) : Wk P ρ G := ⟨ρ, G, ELe.refl ρ, Sub.refl G, h⟩
def qWhile (c : QT) (b : QS) : QS := fun D ρ G => ∃ I : Nat → REnv → Gp → Prop, (∃ m, I m ρ G) ∧ ∀ m ρ G, I m ρ G →
  c ρ G fun k G1 => (k = true → b { D with nx := Wk fun ρ' G' => ∃ m', m' < m ∧ I m' ρ' G', ct := Wk fun ρ' G' => ∃ m', m' < m ∧ I m' ρ' G', bk := D.nx } ρ G1) ∧ (k = false → D.nx ρ G1)
theorem s_while {c : Expr} {body : List Stmt} {qc : QT} {qb : QS} (hp : PassesOwn (model X.prog X.w) X.A X.env X.xe) (hc : PT X c (cT X.K qc)) (hb : PSs X body (cS X.K qb)) : PS X (.While c body [] pos) (cS X.K (qWhile qc qb)) :=
  PS.wk (ps_while hp hc hb) fun D σ H h => by
    obtain ⟨ρ, G, D', e, a, ⟨J, ⟨m0, i0⟩, turn⟩, f⟩ := h
    refine ⟨fun m σ' H' => Tups H H' ∧ ∃ ρ' G', EnvR X.K H' ρ' σ' ∧ Abs X.K H' G' ∧ J m ρ' G', ⟨m0, Tups.refl H, ρ, G, e, a, i0⟩, ?_⟩
    rintro m σ1 H1 ⟨k1, ρ1, G1, e1, a1, j1⟩
    refine ⟨ρ1, G1, _, e1, a1, turn m ρ1 G1 j1, fun b H2 G2 k2 a2 q2 => ?_⟩
    cases b with
    | true =>
      rw [if_pos rfl]
      refine ⟨fun σ' H' => Tups H H' ∧ ∃ ρ' G', EnvR X.K H' ρ' σ' ∧ Abs X.K H' G' ∧ ∃ m', m' < m ∧ J m' ρ' G', fun σ' H' ⟨k, ρ', G', e', a', m', hm, j'⟩ => ⟨m', hm, k, ρ', G', e', a', j'⟩, ?_⟩
      have k12 := k1.trans k2
      have fol : FolS X.K H2 (Wk fun ρ' G' => ∃ m', m' < m ∧ J m' ρ' G') (fun σ' H' => Tups H H' ∧ ∃ ρ' G', EnvR X.K H' ρ' σ' ∧ Abs X.K H' G' ∧ ∃ m', m' < m ∧ J m' ρ' G') :=
        fun σ' H' ρ' G' k3 e3 a3 ⟨ρ4, G4, le, sb, q4⟩ => ⟨k12.trans k3, ρ4, G4, e3.le le, a3.sub sb, q4⟩
      exact ⟨ρ1, G2, _, e1.mono k2, a2, q2.1 rfl, ⟨fol, f.rt.from k12, f.nx.from k12, fol⟩⟩
    | false =>
      rw [if_neg Bool.false_ne_true]
      exact f.nx σ1 H2 ρ1 G2 (k1.trans k2) (e1.mono k2) a2 (q2.2 rfl)
def qFor (qi : QI) (qg : QG) (b : QS) : QS := fun D ρ G => qi ρ G fun ts St G1 => ∃ I : Nat → REnv → Gp → Prop, I 0 ρ G1 ∧ (∀ i ρ G, i ≤ ts.length → I i ρ G → St G) ∧
  (∀ i t ρ G, ts[i]? = some t → I i ρ G → qg t ρ G fun ρ2 G2 => b { D with nx := Wk (I (i + 1)), ct := Wk (I (i + 1)), bk := D.nx } ρ2 G2) ∧ ∀ ρ G, I ts.length ρ G → D.nx ρ G
theorem s_for {iter : Expr} {body : List Stmt} {qi : QI} {qb : QS} (hp : PassesOwn (model X.prog X.w) X.A X.env X.xe) (hc : X.calm = true) (hi : PI X tg iter (cI X.K qi)) (hg : PG X tg (cG X.K own qg)) (hb : PSs X body (cS X.K qb))
    (hs : ∀ x, foldedSetIterable iter X.env x = pure x := by intro _; rfl) : PS X (.For tg iter body [] pos) (cS X.K (qFor qi qg qb)) := PS.wk (ps_for hp hc hi hg hb hs) fun D σ H h => by
  obtain ⟨ρ, G, D', e, a, q, f⟩ := h
  refine ⟨ρ, G, _, e, a, q, fun J H1 ts St G1 k1 a1 w ⟨I, i0, hst, turn, done⟩ => ?_⟩
  refine ⟨fun i m σ' H' => m = ts.length - i ∧ i ≤ ts.length ∧ Tups H1 H' ∧ ∃ ρ' G', EnvR X.K H' ρ' σ' ∧ Abs X.K H' G' ∧ I i ρ' G', ⟨ts.length, by simp, Nat.zero_le _, Tups.refl H1, ρ, G1, e.mono k1, a1, i0⟩, ?_⟩
  rintro i m σ2 H2 ⟨rfl, hi, k2, ρ2, G2, e2, a2, j2⟩
  have st := hst i ρ2 G2 hi j2
  by_cases hlt : i < ts.length
  · refine .inr ⟨w.goes i H2 G2 hlt k2 a2 st, fun σ' H' => Tups H1 H' ∧ ∃ ρ' G', EnvR X.K H' ρ' σ' ∧ Abs X.K H' G' ∧ I (i + 1) ρ' G', fun σ' H' ⟨k, p⟩ => ⟨ts.length - (i + 1), by omega, rfl, hlt, k, p⟩, fun x H3 y => ?_⟩
    obtain ⟨k3, a3, t, ht, r3⟩ := w.yields i H2 G2 x H3 hlt k2 a2 st y
    have k23 := k2.trans k3
    refine ⟨t, ρ2, G2, _, r3, e2.mono k3, a3, turn i t ρ2 G2 ht j2, fun σ4 H4 ρ4 G4 _ k4 e4 a4 q4 => ?_⟩
    have k14 := k23.trans k4
    have fol : FolS X.K H4 (Wk (I (i + 1))) (fun σ' H' => Tups H1 H' ∧ ∃ ρ' G', EnvR X.K H' ρ' σ' ∧ Abs X.K H' G' ∧ I (i + 1) ρ' G') :=
      fun σ' H' ρ' G' k5 e5 a5 ⟨ρ6, G6, le, sb, q6⟩ => ⟨k14.trans k5, ρ6, G6, e5.le le, a5.sub sb, q6⟩
    exact ⟨ρ4, G4, _, e4, a4, q4, ⟨fol, f.rt.from (k1.trans k14), f.nx.from (k1.trans k14), fol⟩⟩
  · have e' : i = ts.length := by omega
    subst e'
    exact .inl ⟨w.stops H2 G2 k2 a2 st, f.nx σ2 H2 ρ2 G2 (k1.trans k2) e2 a2 (done ρ2 G2 j2)⟩
end
end Lw

set_option Elab.async false
set_option linter.all false
set_option maxRecDepth 100000
set_option maxHeartbeats 4000000
namespace Lw
open PySem PySem.Spec PyProof.Rows L2

/-! ### what is walked -/
section
variable {K : PySem.W.Frag} {H1 : Hp} {a b : Addr}
theorem wt_of {J : It} {n : Nat} {Gd : Hp → Prop} {Y : Nat → Hp → V → Hp → Prop} {ts : List T} {St : Gp → Prop} (w : Walk J n Gd Y) (hn : n = ts.length) (hg : ∀ H G, Tups H1 H → Abs K H G → St G → Gd H)
    (hy : ∀ i H G x H', i < ts.length → Tups H1 H → Abs K H G → St G → Y i H x H' → Tups H H' ∧ Abs K H' G ∧ ∃ t, ts[i]? = some t ∧ Rp K H' t x) : WalkT K J H1 ts St := by
  subst hn
  exact ⟨fun i H G hi k a s => w.goes i H hi (hg H G k a s), fun H G k a s => w.stops H (hg H G k a s), fun i H G x H' hi k a s y => hy i H G x H' hi k a s (w.yields i H x H' hi (hg H G k a s) y)⟩
theorem wt_tup {ts : List T} {vs : List V} (hp : H1 a = some (.tup vs)) (r : RpL K H1 ts vs) : WalkT K (Itt K a) H1 ts (fun _ => True) :=
  wt_of (walk_tup (xs := vs)) r.length (fun H G k _ _ => SqT.of (k.t _ _ hp)) fun i H G x H' hi k a _ y => by
    obtain ⟨e, hx⟩ := y
    subst e
    exact ⟨Tups.refl _, a, (r.mono k).get hx⟩
theorem list_eq {H : Hp} {xs ys : List V} (h : H a = some (.lst xs)) (h' : H a = some (.lst ys)) : xs = ys := by
  rw [h] at h'; cases h'; rfl
/-- the list at a, which holds ts through the loop -/
theorem wt_list {ts : List T} : WalkT K (Itl K a) H1 ts (fun G => G a = some (.lst ts)) where
  goes := fun i H G hi k ab s => by
    obtain ⟨vs, hp, r⟩ := ab _ _ s
    obtain ⟨v, hv, _⟩ := r.at (show ts[i]? = some ts[i] by simp [hi])
    exact ⟨vs, v, SqL.of hp, hv⟩
  stops := fun H G k ab s => by
    obtain ⟨vs, hp, r⟩ := ab _ _ s
    exact ⟨vs, SqL.of hp, by rw [r.length]; exact Nat.le_refl _⟩
  yields := fun i H G x H' hi k ab s y => by
    obtain ⟨e, hy⟩ := y
    subst e
    obtain ⟨vs, hp, r⟩ := ab _ _ s
    exact ⟨Tups.refl _, ab, r.get (hy vs (SqL.of hp))⟩
theorem wt_range {lo : Int} {n : Nat} : WalkT K (Itr lo n) H1 ((List.range n).map fun i : Nat => T.int (lo + i)) (fun _ => True) :=
  wt_of walk_range (by simp) (fun _ _ _ _ _ => trivial) fun i H G x H' hi k a _ y => by
    obtain ⟨e, hx⟩ := y
    subst e hx
    rw [List.length_map, List.length_range] at hi
    exact ⟨Tups.refl _, a, .int (lo + i), by simp [hi], rfl⟩
/-- the pairs that enumerate gives -/
def enumT (ts : List T) : List T := (List.range ts.length).map fun i : Nat => T.tup [.int i, ts.getD i .non]
theorem enumT_len {ts : List T} : (enumT ts).length = ts.length := by unfold enumT; rw [List.length_map, List.length_range]
theorem enumT_at {ts : List T} {i : Nat} {t : T} (h : ts[i]? = some t) : (enumT ts)[i]? = some (.tup [.int i, t]) := by
  have hi := (List.getElem?_eq_some_iff.mp h).1
  unfold enumT
  rw [List.getElem?_map, List.getElem?_range hi]
  show some (T.tup [.int i, ts.getD i .non]) = _
  rw [List.getD_eq_getElem?_getD, h]
  rfl
theorem enumT_get {ts : List T} {i : Nat} {t : T} (h : (enumT ts)[i]? = some t) : ∃ u, ts[i]? = some u ∧ t = .tup [.int i, u] := by
  have hi : i < ts.length := by
    have := (List.getElem?_eq_some_iff.mp h).1
    rw [enumT_len] at this; exact this
  have e := enumT_at (ts := ts) (i := i) (t := ts[i]) (by simp [hi])
  rw [e] at h
  exact ⟨ts[i], by simp [hi], (Option.some.inj h).symm⟩
theorem pair_new {H : Hp} {p : Addr} {t u : T} {v w : V} (hp : H p = none) (h1 : Rp K H t v) (h2 : Rp K H u w) : Rp K (upd H p (.tup [v, w])) (.tup [t, u]) (.ref p) := by
  have k : Tups H (upd H p (.tup [v, w])) := Tups.new hp
  exact ⟨p, [v, w], rfl, upd_same, v, [w], rfl, h1.mono k, w, [], rfl, h2.mono k, rfl⟩
theorem wt_enum {ts : List T} : WalkT K (Ite K a) H1 (enumT ts) (fun G => G a = some (.lst ts)) where
  goes := fun i H G hi k ab s => by
    rw [enumT_len] at hi
    obtain ⟨vs, hp, r⟩ := ab _ _ s
    obtain ⟨v, hv, _⟩ := r.at (show ts[i]? = some ts[i] by simp [hi])
    exact ⟨vs, v, SqL.of hp, hv⟩
  stops := fun H G k ab s => by
    obtain ⟨vs, hp, r⟩ := ab _ _ s
    exact ⟨vs, SqL.of hp, by rw [r.length, enumT_len]; exact Nat.le_refl _⟩
  yields := fun i H G x H' hi k ab s y => by
    obtain ⟨p, z, rfl, hp0, rfl, hz⟩ := y
    obtain ⟨vs, hp, r⟩ := ab _ _ s
    obtain ⟨t, ht, rt⟩ := r.get (hz vs (SqL.of hp))
    exact ⟨Tups.new hp0, ab.grow hp0, _, enumT_at ht, pair_new hp0 (show Rp K H (.int i) (.int i) from rfl) rt⟩
end

section
variable {X : Cx} {tg : Expr} {l : Expr} {qe : QE} {qa : QA}
/-- over a list or a tuple: which, is told by the value -/
def qiTup (qe : QE) : QI := fun ρ G R => qe ρ G fun x G1 => match x with | .tup ts => R ts (fun _ => True) G1 | _ => False
def qiLst (qe : QE) : QI := fun ρ G R => qe ρ G fun x G1 => match x with | .ref a => ∃ ts, G1 a = some (.lst ts) ∧ R ts (fun G => G a = some (.lst ts)) G1 | _ => False
theorem i_tup (hl : PE X l (cE X.K qe)) : PI X tg l (cI X.K (qiTup qe)) := PI.wk (pi_tup hl) fun σ H R h => by
  obtain ⟨ρ, G, Q, e, a, q, f⟩ := h
  refine ⟨ρ, G, _, e, a, q, fun v H1 t G1 k1 a1 r1 q1 => ?_⟩
  split at q1
  · obtain ⟨p, vs, rfl, hp, r⟩ := r1
    exact ⟨p, rfl, ⟨vs, SqT.of hp⟩, f _ H1 _ _ G1 k1 a1 (wt_tup hp r) q1⟩
  · exact q1.elim
theorem i_lst (hl : PE X l (cE X.K qe)) : PI X tg l (cI X.K (qiLst qe)) := PI.wk (pi_list hl) fun σ H R h => by
  obtain ⟨ρ, G, Q, e, a, q, f⟩ := h
  refine ⟨ρ, G, _, e, a, q, fun v H1 t G1 k1 a1 r1 q1 => ?_⟩
  split at q1
  · cases r1
    obtain ⟨ts, hg, q1⟩ := q1
    obtain ⟨vs, hp, r⟩ := a1 _ _ hg
    exact ⟨_, rfl, ⟨vs, SqL.of hp⟩, f _ H1 _ _ G1 k1 a1 wt_list q1⟩
  · exact q1.elim
def rngT (n : Nat) : List T := (List.range n).map fun i : Nat => T.int i
def qiRng1 (qa : QA) : QI := fun ρ G R => qa ρ G fun ts G1 => match ts with | [.int j] => (-1000000 ≤ j ∧ j ≤ 1000000) ∧ R (rngT j.toNat) (fun _ => True) G1 | _ => False
def qiRng2 (qa : QA) : QI := fun ρ G R => qa ρ G fun ts G1 => match ts with
  | [.int i, .int j] => (-1000000 ≤ i ∧ i ≤ 1000000 ∧ -1000000 ≤ j ∧ j ≤ 1000000) ∧ R ((List.range (j - i).toNat).map fun n : Nat => T.int (i + n)) (fun _ => True) G1
  | _ => False
theorem i_rng1 {a : Expr} {p pos : Pos} (hg : Gl X "range") (hm : X.mg "range" = none) (ha : PA X [a] (cA X.K qa)) (hs : starEach [a] X.env = [(false, eval a X.env)] := by rfl) : PI X tg (.Call (.Name "range" p) [a] [] pos) (cI X.K (qiRng1 qa)) :=
  PI.wk (pi_range1 hg hm ha hs) fun σ H R h => by
    obtain ⟨ρ, G, Q, e, a, q, f⟩ := h
    refine ⟨ρ, G, _, e, a, q, fun vs H1 ts G1 k1 a1 r1 q1 => ?_⟩
    split at q1
    · obtain ⟨v, rfl, h1⟩ := rpl1 r1
      cases h1
      rename_i j
      have w := wt_range (K := X.K) (H1 := H1) (lo := 0) (n := j.toNat)
      have e1 : ((List.range j.toNat).map fun i : Nat => T.int (0 + (i : Int))) = rngT j.toNat := by unfold rngT; simp only [Int.zero_add]
      rw [e1] at w
      exact ⟨j, rfl, by omega, by omega, f _ H1 _ _ G1 k1 a1 w q1.2⟩
    · exact q1.elim
theorem i_rng2 {a b : Expr} {p pos : Pos} (hg : Gl X "range") (hm : X.mg "range" = none) (ha : PA X [a, b] (cA X.K qa)) (hs : starEach [a, b] X.env = [(false, eval a X.env), (false, eval b X.env)] := by rfl) (hs2 : starEach [b] X.env = [(false, eval b X.env)] := by rfl) :
    PI X tg (.Call (.Name "range" p) [a, b] [] pos) (cI X.K (qiRng2 qa)) := PI.wk (pi_range2 hg hm ha hs hs2) fun σ H R h => by
  obtain ⟨ρ, G, Q, e, a, q, f⟩ := h
  refine ⟨ρ, G, _, e, a, q, fun vs H1 ts G1 k1 a1 r1 q1 => ?_⟩
  split at q1
  · obtain ⟨v, w, rfl, h1, h2⟩ := rpl2 r1
    cases h1; cases h2
    exact ⟨_, _, rfl, ⟨by omega, by omega, by omega, by omega⟩, f _ H1 _ _ G1 k1 a1 wt_range q1.2⟩
  · exact q1.elim
def qiEnumL (qa : QA) : QI := fun ρ G R => qa ρ G fun ts G1 => match ts with | [.ref a] => ∃ ts, G1 a = some (.lst ts) ∧ R (enumT ts) (fun G => G a = some (.lst ts)) G1 | _ => False
theorem i_enumL {e : Expr} {p pos tpos : Pos} {elts : List Expr} {kk : Nat} (hg : Gl X "enumerate") (hm : X.mg "enumerate" = none) (ha : PA X [e] (cA X.K qa)) (hs : starEach [e] X.env = [(false, eval e X.env)] := by rfl) :
    PI X (.Tuple elts kk tpos) (.Call (.Name "enumerate" p) [e] [] pos) (cI X.K (qiEnumL qa)) := PI.wk (pi_enum hg hm ha hs) fun σ H R h => by
  obtain ⟨ρ, G, Q, e, a, q, f⟩ := h
  refine ⟨ρ, G, _, e, a, q, fun vs H1 ts G1 k1 a1 r1 q1 => ?_⟩
  split at q1
  · obtain ⟨v, rfl, h1⟩ := rpl1 r1
    cases h1
    obtain ⟨us, hg, q1⟩ := q1
    obtain ⟨ws, hp, r⟩ := a1 _ _ hg
    exact ⟨_, ws, rfl, SqL.of hp, f _ H1 _ _ G1 k1 a1 wt_enum q1⟩
  · exact q1.elim

/-! ### comprehensions -/
def wipeT (ρ : REnv) : List Nat → REnv
  | [] => ρ
  | v :: vs => put (wipeT ρ vs) v none
def wipeK (ρ : REnv) : List Nat → (REnv → Prop) → Prop
  | [], k => k ρ
  | v :: vs, k => wipeK ρ vs fun ρ' => putK ρ' v none k
theorem wipeK_wipe {ρ : REnv} : ∀ {vs : List Nat} {k : REnv → Prop}, wipeK ρ vs k → k (wipeT ρ vs)
  | [], _, h => h
  | v :: vs, k, h => putK_put (wipeK_wipe (vs := vs) (k := fun ρ' => putK ρ' v none k) h)
theorem EnvR.wipe {K : PySem.W.Frag} {H : Hp} {ρ : REnv} {σ : L2.St} (e : EnvR K H ρ σ) : ∀ vs : List Nat, EnvR K H (wipeT ρ vs) (L2.wipe σ vs)
  | [] => e
  | v :: vs => EnvR.putN v (EnvR.wipe e vs)
/-- I: by the turn, what is made so far, the heap (the new list at D within) -/
def qLc (qi : QI) (qg : QG) (qt : QT) (qe : QE) (own : List Nat) : QE := fun ρ G Q => qi ρ G fun ts St G1 => ∀ D, G1 D = none → ts.length ≤ 100000 ∧ ∃ I : Nat → List T → Gp → Prop, I 0 [] (gput G1 D (.lst [])) ∧ (∀ i acc G, i ≤ ts.length → I i acc G → St G ∧ G D = some (.lst acc) ∧ acc.length ≤ i) ∧
  (∀ i t acc G, ts[i]? = some t → I i acc G → wipeK ρ own fun ρ1 => qg t ρ1 G fun ρ2 G2 => qt ρ2 G2 fun b G3 => (b = true → qe ρ2 G3 fun y G4 => G4 D = some (.lst acc) ∧ ∃ G5, Sub G5 (gput G4 D (.lst (acc ++ [y]))) ∧ I (i + 1) (acc ++ [y]) G5) ∧ (b = false → ∃ G5, Sub G5 G3 ∧ I (i + 1) acc G5)) ∧
  ∀ acc G, I ts.length acc G → Q (.ref D) G
def qYes : QT := fun _ G Q => Q true G
theorem ts_nil : PTs X [] (cT X.K qYes) := ⟨fun pins s σ H Q I h => by
  obtain ⟨ρ, G, Q, e, a, q, f⟩ := h
  exact wpAny_tests_nil ⟨H, I, f true H G (Tups.refl H) a q⟩⟩
theorem ts_one {c : Expr} {t : QT} (h : PT X c (cT X.K t)) : PTs X [c] (cT X.K t) := pts_one h
variable {elt iter : Expr} {ifs : List Expr} {scope : Scope} {own : List (Str × Nat)} {pos : Pos} {qi : QI} {qg : QG} {qt : QT} {qel : QE}
theorem lc_wk : ∀ σ H KQ, cE X.K (qLc qi qg qt qel (own.map (·.2))) σ H KQ → tLc (cI X.K qi) (cG X.K (own.map (·.2)) qg) (cT X.K qt) (cE X.K qel) (own.map (·.2)) σ H KQ := fun σ H KQ h => by
  obtain ⟨ρ, G, Q, e, a, q, f⟩ := h
  refine ⟨ρ, G, _, e, a, q, fun J H1 ts St G1 k1 a1 w q1 => fun D hD => ?_⟩
  obtain ⟨hz, I, i0, hst, turn, done⟩ := q1 D (a1.free hD)
  have kD : Tups H1 (upd H1 D (.lst [])) := Tups.new hD
  refine ⟨fun i m H' => m = ts.length - i ∧ i ≤ ts.length ∧ Tups H1 H' ∧ ∃ acc G', Abs X.K H' G' ∧ I i acc G',
    ⟨ts.length, by simp, Nat.zero_le _, kD, [], _, a1.put (o := .lst []) ⟨fun xs z => (by rw [hD] at z; cases z), fun o xs z => (by rw [hD] at z; cases z)⟩ ⟨[], upd_same, rfl⟩, i0⟩, ?_⟩
  rintro i m H2 ⟨rfl, hi, k2, acc, G2, a2, j2⟩
  obtain ⟨st, gd, hl⟩ := hst i acc G2 hi j2
  have e2 : EnvR X.K H2 ρ σ := e.mono (k1.trans k2)
  by_cases hlt : i < ts.length
  · refine .inr ⟨w.goes i H2 G2 hlt k2 a2 st, fun H' => Tups H1 H' ∧ ∃ acc G', Abs X.K H' G' ∧ I (i + 1) acc G', fun H' p => ⟨ts.length - (i + 1), by omega, rfl, hlt, p⟩, fun x H3 y => ?_⟩
    obtain ⟨k3, a3, t, ht, r3⟩ := w.yields i H2 G2 x H3 hlt k2 a2 st y
    have k23 := k2.trans k3
    refine ⟨t, _, G2, _, r3, (e2.mono k3).wipe _, a3, wipeK_wipe (turn i t acc G2 ht j2), fun σ4 H4 ρ4 G4 w4 k4 e4 a4 q4 => ⟨?_, ?_⟩⟩
    · rw [w4]
      exact wipe_wipe
    · refine ⟨ρ4, G4, _, e4, a4, q4, fun b H5 G5 k5 a5 q5 => ?_⟩
      have k15 := (k23.trans k4).trans k5
      cases b with
      | false =>
        show (if false = true then _ else _)
        rw [if_neg Bool.false_ne_true]
        obtain ⟨G6, sb, j6⟩ := q5.2 rfl
        exact ⟨k15, acc, G6, a5.sub sb, j6⟩
      | true =>
        show (if true = true then _ else _)
        rw [if_pos rfl]
        refine ⟨ρ4, G5, _, e4.mono k5, a5, q5.1 rfl, fun v H6 y6 G6 k6 a6 r6 ⟨gd6, G7, sb, j7⟩ => ?_⟩
        obtain ⟨vs, hv, rv⟩ := a6 _ _ gd6
        have hz2 : acc.length < 100000 := by
          have := (List.getElem?_eq_some_iff.mp ht).1
          omega
        have wr : Wr H6 D := Wr.of hv (fun _ z => by cases z) (fun _ _ z => by cases z)
        have k7 := Tups.set (o := .lst (vs ++ [v])) wr
        refine ⟨vs, hv, by rw [rv.length]; exact Nat.lt_of_lt_of_le hz2 (by decide), (k15.trans k6).trans k7, acc ++ [y6], G7, Abs.sub (a6.put (o := .lst (acc ++ [y6])) wr ⟨_, upd_same, (rv.append (RpL.one r6)).mono k7⟩) sb, j7⟩
  · have e' : i = ts.length := by omega
    subst e'
    exact .inl ⟨w.stops H2 G2 k2 a2 st, f _ H2 (.ref D) G2 (k1.trans k2) a2 rfl (done acc G2 j2)⟩
theorem e_lc (hc : X.calm = true) (hN : X.N.Nodup) (hi : PI X tg iter (cI X.K qi)) (ok : BlkOk X.N X.env.scope scope own)
    (hg : ∀ (s : Shared) (H : Hp) (C : Addr) (cl : List (Str × Addr)) (fp : List Addr), PG (X.blk s H scope (compEnvC scope cl C X.env) fp) tg (cG X.K (own.map (·.2)) qg)) (ht : ∀ (s : Shared) (H : Hp) (C : Addr) (cl : List (Str × Addr)) (fp : List Addr), PTs (X.blk s H scope (compEnvC scope cl C X.env) fp) ifs (cT X.K qt))
    (he : ∀ (s : Shared) (H : Hp) (C : Addr) (cl : List (Str × Addr)) (fp : List Addr), PE (X.blk s H scope (compEnvC scope cl C X.env) fp) elt (cE X.K qel)) (hs : ∀ x, foldedSetIterable iter X.env x = pure x := by intro _; rfl) :
    PE X (.ListComp elt [⟨tg, iter, ifs, 0⟩] scope pos) (cE X.K (qLc qi qg qt qel (own.map (·.2)))) := PE.wk (pe_lc hc hN hi ok hg ht he hs) lc_wk
theorem s_setLc {i : Nat} {y : Str} {py spos : Pos} (hc : X.calm = true) (hN : X.N.Nodup) (hy : X.N[i]? = some y) (hyl : X.env.scope.names.lookup y = some .local)
    (hsw : swapsWith (.ListComp elt [⟨tg, iter, ifs, 0⟩] scope pos) (some (.Name y py)) spos.line X.env = pure true) (hi : PI X tg iter (cI X.K qi)) (ok : BlkOk X.N X.env.scope scope own)
    (hg : ∀ (s : Shared) (H : Hp) (C : Addr) (cl : List (Str × Addr)) (fp : List Addr), PG (X.blk s H scope (compEnvC scope cl C X.env) fp) tg (cG X.K (own.map (·.2)) qg)) (ht : ∀ (s : Shared) (H : Hp) (C : Addr) (cl : List (Str × Addr)) (fp : List Addr), PTs (X.blk s H scope (compEnvC scope cl C X.env) fp) ifs (cT X.K qt))
    (he : ∀ (s : Shared) (H : Hp) (C : Addr) (cl : List (Str × Addr)) (fp : List Addr), PE (X.blk s H scope (compEnvC scope cl C X.env) fp) elt (cE X.K qel)) (hs : ∀ x, foldedSetIterable iter X.env x = pure x := by intro _; rfl) :
    PS X (.Assign [.Name y py] (.ListComp elt [⟨tg, iter, ifs, 0⟩] scope pos) spos) (cS X.K (qAsg (qLc qi qg qt qel (own.map (·.2))) (gNm i))) := PS.wk (ps_setLc hc hN hy hyl hsw hi ok hg ht he hs) fun D σ H h => by
  obtain ⟨ρ, G, D', e, a, q, f⟩ := h
  exact lc_wk σ H _ ⟨ρ, G, _, e, a, q, fun v H1 t G1 k1 a1 r1 q1 => f.nx _ H1 _ G1 k1 ((e.mono k1).put r1 i) a1 (putK_put q1)⟩
end

/-! ### a def's promise by its body -/
section
variable {P : Program} {w : World} {K : PySem.W.Frag} {mg : Str → Option Value} {base : Heap}
def startT (N : List Str) (ts : List T) : REnv := ts.map some ++ List.replicate (N.length - ts.length) none
/-- what a def hands back: what it made besides may be dropped -/
def Ret (Q : TK) : TK := fun t G => ∃ G1, Sub G1 G ∧ Q t G1
theorem Ret.of {Q : TK} {t : T} {G : Gp} (h : Q t G) : Ret Q t G := ⟨G, Sub.refl G, h⟩
def endOf (Q : TK) : QD := { nx := fun _ G => Ret Q .non G, rt := Ret Q }
theorem okq {x qual : Str} {st : Stmt} {f : Addr} {fd : FuncData} {N ps : List Str} {k : Nat} {sp : QSp} {q : QS} (F : Fun K x qual st f fd) (S : FnScope N ps (defScope st)) (len : ∀ ts G Q E, sp ts G Q E → ts.length = ps.length)
    (der : ∀ (cdv : Value) (A : Around) (outer : List PySem.Env) (s : Shared) (H : Hp) (E : XK), Room k (A.deeper (envOfC qual (defScope st) s.heap.objs.size f cdv)) → PSs (cxOf CX0 P w K mg base N qual (defScope st) f cdv A outer s H E).nox (defBody st) (cS K q))
    (run : ∀ ts G Q E, sp ts G Q E → normK (startT N ts) fun ρ => q (endOf Q) ρ G) : FnOk P w K mg base CX0 (k + 1) f fd ps (cSp K sp) := by
  refine F.ok S (fun vs H Q E h => ?_) (fun cdv A outer s H vs KQ E hr h => ⟨_, der cdv A outer s H E hr, ?_⟩)
  · obtain ⟨ts, G, Q, E', r, a, h, _⟩ := h
    rw [r.length]
    exact len _ _ _ _ h
  · obtain ⟨ts, G, Q, E', r, a, h, g, _⟩ := h
    have e : EnvR K H (startT N ts) (L2.start N vs) := by
      unfold startT L2.start
      rw [r.length]
      exact EnvR.start _ r
    refine ⟨startT N ts, G, endOf Q, e, a, normK_norm (run ts G Q E' h), ⟨fun σ' H' ρ' G' k1 e1 a1 ⟨G2, sb, q1⟩ => g .non H' .non G2 k1 (a1.sub sb) rfl q1, fun v H' t G' k1 a1 r1 ⟨G2, sb, q1⟩ => g v H' t G2 k1 (a1.sub sb) r1 q1, fun _ _ _ _ _ _ _ z => z.elim, fun _ _ _ _ _ _ _ z => z.elim⟩⟩
end

/-! ### the law's own -/
/-- the law's promise: it hands back True -/
def spLaw : QSp := fun ts G Q _ => ∃ ns : List Int, ts = [.scr ns] ∧ ns.length ≤ 63 ∧ (∀ b, G b = none) ∧ ∀ G', Q (.bl true) G'
theorem law_sp {K : PySem.W.Frag} {H : Hp} {a : Addr} {ns : List Int} (hl : ns.length ≤ 63) (hO : Only H) (hS : SqL K H a (ns.map V.int)) : cSp K spLaw [.ref a] H (fun v _ => v = .bl true) fun _ _ _ => False := by
  refine ⟨[.scr ns], fun _ => none, fun t _ => t = .bl true, X0, ⟨.ref a, [], rfl, ⟨a, rfl, ?_⟩, rfl⟩, fun _ _ z => (by cases z), ⟨ns, rfl, hl, fun _ => rfl, fun _ => rfl⟩, fun v H' t G' _ _ r e => ?_, folx0⟩
  · rcases hS with (h | h) | h
    · rcases hO a with z | ⟨o, xs, z⟩
      · rw [h] at z; cases z
      · rw [h] at z; cases z
    · exact .inl h
    · exact .inr h
  · subst e
    exact r
end Lw

set_option Elab.async false
set_option linter.all false
set_option maxRecDepth 100000
set_option maxHeartbeats 4000000
namespace Lw
open PySem PySem.Spec PyProof.Rows L2

/-! ### enumerate of a tuple -/
section
open AutoSeq1 (wpAny_loadPart')
theorem meets_enumerate_newT {v : Value} {o : Obj} {H : Heap → Prop} (B : Begins v o H) :
    Meets (Builtin.«enumerate.__new__» ⟨[.type "enumerate", v], []⟩) (fun _ R s => H s.heap ∧
      R (.ok (.ret (.ref (s.heap.push o).objs.size))) { s with heap := (s.heap.push o).push { cls := .type "enumerate", data := .fields #[.none, .bool false, .ref s.heap.objs.size, rawInt 0, .none, .none] } }) :=
  .of_wp fun prog w A R s h => by
    obtain ⟨hp, g, d, tk, os⟩ := s; obtain ⟨h1, h⟩ := h
    have hsub := sub_enumerate
    have q1 : ∀ {A' : Around} {E : Value → Shared → Prop} {Q : Value → Shared → Prop}, Q (.ref hp.objs.size) ⟨hp.push o, g, d, tk, os⟩ → wpAny (model prog w) A' (pyIter v) Q E ⟨hp, g, d, tk, os⟩ :=
      fun q => B.iter prog w _ _ ⟨hp, g, d, tk, os⟩ _ h1 q
    wp_walk using q1
    refine wpAny_stack_any fun st => wpAny_pure ?_
    split
    · rename_i c _ _ _ _ _
      cases (c == Value.type "enumerate")
      · wp_walk using q1
        exact ⟨_, rfl, h⟩
      · wp_walk using q1
        exact ⟨_, rfl, h⟩
    · wp_walk using q1
      exact ⟨_, rfl, h⟩
end
theorem enum1_begins {prog : Program} {w : World} {A : Around} {E : Value → Shared → Prop} {s : Shared} {v : Value} {o : Obj} {H : Heap → Prop} {Q : Value → Shared → Prop} (B : Begins v o H) (h1 : H s.heap)
    (h : ∀ h', IsEnum h' (s.heap.objs.size + 1) s.heap.objs.size 0 .none → h'.get? s.heap.objs.size = some o → h'.objs.size = s.heap.objs.size + 2 →
      (∀ b o, s.heap.get? b = some o → h'.get? b = some o) → Q (.ref (s.heap.objs.size + 1)) { s with heap := h' }) :
    wpAny (model prog w) A (call (.type "enumerate") [v]) Q E s := by
  refine callType_new F.called_enumerate (by decide) (F.typeCall_enumerate_1 _) (F.newCall_enumerate_1 _) (fun obj => F.args_object_init_2 obj _) F.entry_enumerate_new
    (meets_enumerate_newT B) ⟨h1, ?_⟩
  have hz : (s.heap.push o).objs.size = s.heap.objs.size + 1 := Heap.size_push ..
  show _ ∧ _
  rw [hz]
  have he : IsEnum ((s.heap.push o).push { cls := .type "enumerate", data := .fields #[.none, .bool false, .ref s.heap.objs.size, rawInt 0, .none, .none] }) (s.heap.objs.size + 1) s.heap.objs.size 0 .none := by
    have := Heap.get?_push_size (s.heap.push o) (o := { cls := .type "enumerate", data := .fields #[.none, .bool false, .ref s.heap.objs.size, rawInt 0, .none, .none] }) rfl
    rw [hz] at this; exact this
  refine ⟨⟨_, he, rfl⟩, h _ he (Heap.get?_push_of_some _ (Heap.get?_push_size _ B.free)) (by rw [Heap.size_push, hz]) fun b o x => Heap.get?_push_of_some _ (Heap.get?_push_of_some _ x)⟩
def IteT (K : PySem.W.Frag) (a : Addr) : It :=
  ⟨fun i H => ∃ (xs : List V) (x : V), SqT K H a xs ∧ xs[i]? = some x, fun i H v H' => ∃ T x, v = .ref T ∧ H T = none ∧ H' = upd H T (.tup [.int (i : Nat), x]) ∧ ∀ xs, SqT K H a xs → xs[i]? = some x, fun i H => ∃ xs : List V, SqT K H a xs ∧ xs.length ≤ i⟩
theorem turn_enumT {P : Program} {w : World} {K : PySem.W.Frag} {elts : List Expr} {kk : Nat} {tpos : Pos} (a e it : Addr) :
    Turn P w K (.Tuple elts kk tpos) (IteT K a) [e, it] e (fun i h => (∃ old, IsEnum h e it ((i : Nat) : Int) old) ∧ h.IsTupleIter it a i ∧ e ≠ it) where
  mem := by simp
  obj := fun i h st b hb => by
    obtain ⟨⟨old, he⟩, ⟨o, ho, hc, hd⟩, _⟩ := st
    have e' : b = e ∨ b = it := by simpa using hb
    rcases e' with z | z
    · rw [z]; exact ⟨_, he, fun v q => nomatch q⟩
    · rw [z]; exact ⟨o, ho, fun v q => by rw [hd] at q; cases q⟩
  keep := fun i h h' st k => let ⟨⟨old, he⟩, hi, hne⟩ := st; ⟨⟨old, k e (by simp) _ he⟩, hi.at fun o q => k it (by simp) o q, hne⟩
  item := by
    intro X hP hw hK hc i pins s σ H E I hf st hg
    subst hP hw hK
    obtain ⟨⟨old, he⟩, hit, hne⟩ := st
    obtain ⟨xs, x, hq, hx⟩ := hg
    obtain ⟨its, rv, p, hz⟩ := I.tuple hq
    have p' : s.heap.IsTuple a its.toArray := p
    obtain ⟨u, hu, ru⟩ := rv.get hx
    have hel : e < s.heap.objs.size := Heap.lt_size he
    have hil : it < s.heap.objs.size := by obtain ⟨_, q, _⟩ := hit; exact Heap.lt_size q
    have hat : a ≠ it := by
      rintro rfl
      obtain ⟨o, h1, h2, _⟩ := hit
      obtain ⟨o', h3, h4, _⟩ := p'
      rw [h1] at h3; cases h3
      rw [h2] at h4; exact absurd (Value.type.inj h4) (by decide)
    have hae : a ≠ e := by
      rintro rfl
      obtain ⟨o', h3, h4, _⟩ := p'
      have : IsEnum s.heap a it ((i : Nat) : Int) old := he
      unfold IsEnum at this
      rw [this] at h3; cases h3
      exact absurd (Value.type.inj h4) (by decide)
    refine wpAny_pyNext_enum_itemD (Draws.tuple (prog := X.prog) (w := X.w) (A := X.A.in1) (I.ok.hd hc) it a hat its.toArray) he ⟨hit, p'⟩ (by rw [List.size_toArray]; exact (List.getElem?_eq_some_iff.mp hu).1) hne (by simp; exact ⟨hne, fun z => hae z.symm⟩) fun x2 h' tk hx2 ho hst hT hsz hk => ?_
    have e2 : x2 = u := by
      have : its[i]? = some x2 := by simpa using hx2
      rw [hu] at this; cases this; rfl
    subst e2
    refine ⟨_, rfl, wpAny_letOwnedTupleGo_enum (s := { s with heap := h', toks := tk + 1 }) ho fun h'' he' sb => ?_⟩
    have hT2 : h''.get? s.heap.objs.size = some { cls := .type "tuple", data := .seq #[.int i tk, x2] } := (sb.2 _ (Nat.ne_of_gt hel)).trans hT
    have new : ObjOk X.prog X.w (upd H s.heap.objs.size (.tup [.int (i : Nat), x])) h'' s.heap.objs.size (.tup [.int (i : Nat), x]) :=
      ⟨by show 2 ≤ sizeLine; decide, [.int i tk, x2], .cons ⟨_, rfl⟩ (.cons ru .nil), ⟨_, hT2, rfl, _, rfl⟩⟩
    have I1 : Inv X pins σ (upd H s.heap.objs.size (.tup [.int (i : Nat), x])) { s with heap := h'', toks := tk + 1 } :=
      I.turnedNew (ch := [e, it]) (fun b ob hb q => (sb.2 b (fun z => hb (by simp [z]))).trans (hk b ob (fun z => hb (by simp [z])) (fun z => hb (by simp [z])) q)) hf (Nat.le_refl _) new
    refine ⟨.ref s.heap.objs.size, _, I1, rfl, ⟨_, x, rfl, I.hok.fresh (Nat.le_refl _), rfl, fun ys hy => by rw [I.tuple_inj hy hq]; exact hx⟩, ⟨⟨x2, ?_⟩, hst.1.at fun o q => (sb.2 it (Ne.symm hne)).trans q, hne⟩, fun b hb => ?_⟩
    · have e1 : ((i + 1 : Nat) : Int) = (i : Int) + 1 := by omega
      rw [e1]; exact he'
    · have hb' : b < s.heap.objs.size := by
        have e' : b = e ∨ b = it := by simpa using hb
        rcases e' with z | z
        · rw [z]; exact hel
        · rw [z]; exact hil
      rw [upd_ne (Nat.ne_of_lt hb')]
      exact (hf b hb).1
  done := by
    intro X hP hw hK hc i pins s σ H E I hf st hg
    subst hP hw hK
    obtain ⟨⟨old, he⟩, hit, hne⟩ := st
    obtain ⟨xs, hq, hx⟩ := hg
    obtain ⟨its, rv, p, hz⟩ := I.tuple hq
    have p' : s.heap.IsTuple a its.toArray := p
    obtain ⟨f0, f1, f2, f3, f4, f5⟩ := hf it (by simp)
    have hl := rv.length
    have hT : s.TypeIs (.ref e) "enumerate" := ⟨_, he, rfl⟩
    unfold pyNext
    refine wpAny_bind (wpAny_attempt (wpAny_callSpecial?_slot (name := Str.ofString "__next__") hT F.slot_enumerate_next
      (wpAny_call_entry F.slot_enumerate_next hT F.entry_enumerate_next ?_ (F.args_enumerate_next_1 _))))
    show wpAny _ _ (field (.ref e) 2 >>= _) _ _ _
    refine wpAny_bind (wpAny_field he rfl (x := .ref it) rfl ?_)
    refine wpAny_bind (wpAny_nextOf_tuple_end (A := X.A.in1) (I.ok.hd hc) hit p' (by simp; omega) fun h' x he' hx' => ?_)
    obtain ⟨o, ho, hc2⟩ := hx'
    refine wpAny_bind (wpAny_isInstance (T := "StopIteration") (b := true) ⟨o, ho, hc2⟩ isSubtype_stop ?_)
    exact wpAny_pure ⟨rfl, I.turned (t' := s.toks) (fun b o hb q => he' b o hb q) f0 f1 f3 f4 f5⟩
  self := fun A i s Q E st h => let ⟨⟨_, he⟩, _⟩ := st; wpAny_pyIter_enum he h
def iEnumT (K : PySem.W.Frag) (ta : TA) : TI := fun σ H R => ta σ H fun vs H1 => ∃ a xs, vs = [.ref a] ∧ SqT K H1 a xs ∧ R (IteT K a) H1
theorem pi_enumT {X : Cx} {e : Expr} {ta : TA} {p pos tpos : Pos} {elts : List Expr} {kk : Nat} (hg : Gl X "enumerate") (hm : X.mg "enumerate" = none) (ha : PA X [e] ta) (hs : starEach [e] X.env = [(false, eval e X.env)] := by rfl) :
    PI X (.Tuple elts kk tpos) (.Call (.Name "enumerate" p) [e] [] pos) (iEnumT X.K ta) := by
  refine ⟨fun pins s σ H R I h => ?_⟩
  refine Call_ (ld_blt I hg hm boot_enumerate (PyProof.Rows.callWith_type1 (thn (ha.run pos pins s σ H _ I h) fun us s1 ⟨vs, H1, I1, r1, q1⟩ => ?_) hs rfl))
  obtain ⟨a, xs, ex, hq, q⟩ := q1
  subst ex
  cases r1 with
  | cons r rr =>
    cases rr
    cases r
    obtain ⟨its, rv, p', hz⟩ := I1.tuple hq
    refine enum1_begins (begins_tuple a its.toArray) (show s1.heap.IsTuple a its.toArray from p') fun h' he hit hsz hk => wpAny_pyIter_enum he ?_
    have I2 : Inv X pins σ H1 { s1 with heap := h' } := I1.kept (t' := s1.toks) hk
    refine ⟨s1.heap.objs.size + 1, [s1.heap.objs.size + 1, s1.heap.objs.size], _, _, H1, rfl, I2, turn_enumT a (s1.heap.objs.size + 1) s1.heap.objs.size, ⟨⟨.none, he⟩, ⟨_, hit, rfl, rfl⟩, Nat.succ_ne_self _⟩, fun b hb => ?_, q⟩
    have e' : b = s1.heap.objs.size + 1 ∨ b = s1.heap.objs.size := by simpa using hb
    have hle : s1.heap.objs.size ≤ b := by
      rcases e' with z | z
      · rw [z]; exact Nat.le_add_right _ _
      · rw [z]; exact Nat.le_refl _
    exact I1.fpOk hle (I1.hok.fresh hle)
theorem wt_enumT {K : PySem.W.Frag} {H1 : Hp} {a : Addr} {ts : List T} {vs : List V} (hp : H1 a = some (.tup vs)) (r : RpL K H1 ts vs) : WalkT K (IteT K a) H1 (enumT ts) (fun _ => True) where
  goes := fun i H G hi k ab s => by
    rw [enumT_len] at hi
    obtain ⟨v, hv, _⟩ := r.at (show ts[i]? = some ts[i] by simp [hi])
    exact ⟨vs, v, SqT.of (k.t _ _ hp), hv⟩
  stops := fun H G k ab s => ⟨vs, SqT.of (k.t _ _ hp), by rw [r.length, enumT_len]; exact Nat.le_refl _⟩
  yields := fun i H G x H' hi k ab s y => by
    obtain ⟨p, z, rfl, hp0, rfl, hz⟩ := y
    obtain ⟨t, ht, rt⟩ := (r.mono k).get (hz vs (SqT.of (k.t _ _ hp)))
    exact ⟨Tups.new hp0, ab.grow hp0, _, enumT_at ht, pair_new hp0 (show Rp K H (.int i) (.int i) from rfl) rt⟩
section
variable {X : Cx} {qa : QA}
def qiEnumT (qa : QA) : QI := fun ρ G R => qa ρ G fun ts G1 => match ts with | [.tup us] => R (enumT us) (fun _ => True) G1 | _ => False
theorem i_enumT {e : Expr} {p pos tpos : Pos} {elts : List Expr} {kk : Nat} (hg : Gl X "enumerate") (hm : X.mg "enumerate" = none) (ha : PA X [e] (cA X.K qa)) (hs : starEach [e] X.env = [(false, eval e X.env)] := by rfl) :
    PI X (.Tuple elts kk tpos) (.Call (.Name "enumerate" p) [e] [] pos) (cI X.K (qiEnumT qa)) := PI.wk (pi_enumT hg hm ha hs) fun σ H R h => by
  obtain ⟨ρ, G, Q, e, a, q, f⟩ := h
  refine ⟨ρ, G, _, e, a, q, fun vs H1 ts G1 k1 a1 r1 q1 => ?_⟩
  split at q1
  · obtain ⟨v, rfl, h1⟩ := rpl1 r1
    obtain ⟨p, ws, rfl, hp, r⟩ := h1
    exact ⟨p, ws, rfl, SqT.of hp, f _ H1 _ _ G1 k1 a1 (wt_enumT hp r) q1⟩
  · exact q1.elim
end
end Lw

set_option Elab.async false
set_option linter.all false
set_option maxRecDepth 100000
set_option maxHeartbeats 4000000
namespace Lw
open PySem PySem.Spec PyProof.Rows L2

/-! ### either of two rules -/
section
variable {X : Cx}
theorem c2_or {K : PySem.W.Frag} {f g h : Q2} (s : ∀ x y G Q, h x y G Q → f x y G Q ∨ g x y G Q) {v w : V} {H : Hp} {KQ : VK} (q : c2 K h v w H KQ) : c2 K f v w H KQ ∨ c2 K g v w H KQ := by
  obtain ⟨x, y, G, Q, hx, hy, ha, hf, hk⟩ := q
  rcases s x y G Q hf with z | z
  · exact .inl ⟨x, y, G, Q, hx, hy, ha, z, hk⟩
  · exact .inr ⟨x, y, G, Q, hx, hy, ha, z, hk⟩
theorem o_or {o : Value → Value → Sem Value} {f g h : Q2} (a : OpR X o (c2 X.K f)) (b : OpR X o (c2 X.K g)) (s : ∀ x y G Q, h x y G Q → f x y G Q ∨ g x y G Q) : OpR X o (c2 X.K h) := fun pins st σ H v w u u' KQ I rv rw' q =>
  (c2_or s q).elim (fun z => a pins st σ H v w u u' KQ I rv rw' z) (fun z => b pins st σ H v w u u' KQ I rv rw' z)
theorem pi_or {tg l : Expr} {q1 q2 q : QI} (a : PI X tg l (cI X.K q1)) (b : PI X tg l (cI X.K q2)) (s : ∀ ρ G R, q ρ G R → q1 ρ G R ∨ q2 ρ G R) : PI X tg l (cI X.K q) := ⟨fun pins st σ H R I h => by
  obtain ⟨ρ, G, Q, e, ab, h, f⟩ := h
  rcases s ρ G Q h with z | z
  · exact a.run pins st σ H R I ⟨ρ, G, Q, e, ab, z, f⟩
  · exact b.run pins st σ H R I ⟨ρ, G, Q, e, ab, z, f⟩⟩
end

/-! ### defs by name -/
structure DefOk (P : Program) (w : World) (K : PySem.W.Frag) (mg : Str → Option Value) (base : Heap) (k : Nat) (x : Str) (ps : List Str) (sp : QSp) : Prop where
  ex : ∃ f fd, FnOk P w K mg base CX0 k f fd ps (cSp K sp) ∧ mg x = some (.ref f) ∧ PySem.W.keepIn K (.ref f) = true ∧ L2.Binds K fd ps []
structure FunAt (K : PySem.W.Frag) (mg : Str → Option Value) (x qual : Str) (st : Stmt) (ps : List Str) : Prop where
  ex : ∃ f fd, Fun K x qual st f fd ∧ mg x = some (.ref f) ∧ L2.Binds K fd ps []
section
variable {P : Program} {w : World} {K : PySem.W.Frag} {mg : Str → Option Value} {base : Heap}
theorem funAt_mk {x qual : Str} {st : Stmt} {ps : List Str} {h : Heap} {f : Addr} {oc : Value} {od an : Option Addr} {osl : Array (Option Value)} {kV doc pm cdv ct : Value} (X : K.In h) (G : h.Ns mainGlobals mg)
    (a : PySem.W.nsIn K mainGlobals x = some (some (.ref f))) (l : K.lookup f = some ⟨oc, od, .func (PySem.W.fnOf x qual (defArgs st) (defBody st) (defScope st) .none kV doc pm an cdv ct), osl⟩)
    (c : PySem.W.codeIn K cdv qual = true) (k : PySem.W.keepIn K (.ref f) = true)
    (hb : ∀ (kV doc pm : Value) (an : Option Addr) (cdv ct : Value) (us : List Value), us.length = ps.length → bindArgs (PySem.W.fnOf x qual (defArgs st) (defBody st) (defScope st) .none kV doc pm an cdv ct) ⟨us, []⟩ = pure (ps.zip us)) : FunAt K mg x qual st ps :=
  have F := fun_mk (st := st) l c k
  ⟨⟨f, _, F, PySem.W.mg_of X G a, F.binds hb⟩⟩
theorem okd {x qual : Str} {st : Stmt} {N ps : List Str} {k : Nat} {sp : QSp} {q : QS} (F : FunAt K mg x qual st ps) (S : FnScope N ps (defScope st)) (len : ∀ ts G Q E, sp ts G Q E → ts.length = ps.length)
    (der : ∀ (f : Addr) (cdv : Value) (A : Around) (outer : List PySem.Env) (s : Shared) (H : Hp) (E : XK), Room k (A.deeper (envOfC qual (defScope st) s.heap.objs.size f cdv)) → PSs (cxOf CX0 P w K mg base N qual (defScope st) f cdv A outer s H E).nox (defBody st) (cS K q))
    (run : ∀ ts G Q E, sp ts G Q E → normK (startT N ts) fun ρ => q (endOf Q) ρ G) : DefOk P w K mg base (k + 1) x ps sp := by
  obtain ⟨f, fd, F, m, b⟩ := F.ex
  exact ⟨f, fd, okq F S len (der f) run, m, F.kp, b⟩
end
section
variable {X : Cx} {k : Nat} {x : Str} {ps : List Str} {sp : QSp} {qa : QA} {p pos : Pos} {e : Expr} {es : List Expr}
theorem e_callD (D : DefOk X.prog X.w X.K X.mg X.base k x ps sp) (hr : Room k X.A) (hg : Gl X x) (ha : PA X (e :: es) (cA X.K qa)) (hdb : (x == ("__debug__" : Str)) = false := by decide)
    (he : starEach (e :: es) X.env = (false, eval e X.env) :: starEach es X.env := by rfl) (hpl : (backTo pos (starEach es X.env)).any (·.1) = false := by rfl) : PE X (.Call (.Name x p) (e :: es) [] pos) (cE X.K (qCall sp qa)) := by
  obtain ⟨f, fd, F, m, kp, b⟩ := D.ex
  exact e_call F hr hg m kp b pass0 ha hdb he hpl
end
/-! ### universal rules -/
section
variable {X : Cx} {tg : Expr} {l : Expr} {qe : QE} {qa : QA}
def qiSeq (qe : QE) : QI := fun ρ G R => qe ρ G fun x G1 => match x with
  | .tup ts => R ts (fun _ => True) G1
  | .ref a => ∃ ts, G1 a = some (.lst ts) ∧ R ts (fun G => G a = some (.lst ts)) G1
  | _ => False
theorem pi_seq {l : Expr} {tl : TE} (hl : PE X l tl) : PI X tg l (fun σ H R => tl σ H fun x H1 => ∃ a, x = .ref a ∧ ((∃ xs, SqL X.K H1 a xs) ∧ R (Itl X.K a) H1 ∨ (∃ xs, SqT X.K H1 a xs) ∧ R (Itt X.K a) H1)) := by
  refine ⟨fun pins s σ H R I h => ?_⟩
  refine thn (hl.run pins s σ H _ I h) fun v s1 ⟨x, H1, I1, r1, q1⟩ => ?_
  obtain ⟨a, e, q⟩ := q1
  subst e
  cases r1
  rcases q with ⟨⟨xs, hq⟩, q⟩ | ⟨⟨xs, hq⟩, q⟩
  · obtain ⟨its, rv, p, hz⟩ := I1.list hq
    refine wpAny_pyIter_list p.isList ?_
    refine ⟨s1.heap.objs.size, [s1.heap.objs.size], _, _, H1, rfl, I1.kept (t' := s1.toks) fun b o e => Heap.get?_push_of_some _ e, turn_list a _, ⟨_, Heap.get?_push_size _ rfl, rfl, rfl⟩, fun b hb => ?_, q⟩
    have e : b = s1.heap.objs.size := by simpa using hb
    subst e
    exact I1.fpOk (Nat.le_refl _) (I1.hok.fresh (Nat.le_refl _))
  · obtain ⟨its, rv, p, hz⟩ := I1.tuple hq
    refine wpAny_pyIter_tuple (show s1.heap.IsTuple a its.toArray from p) ?_
    refine ⟨s1.heap.objs.size, [s1.heap.objs.size], _, _, H1, rfl, I1.kept (t' := s1.toks) fun b o e => Heap.get?_push_of_some _ e, turn_tuple a _, ⟨_, Heap.get?_push_size _ rfl, rfl, rfl⟩, fun b hb => ?_, q⟩
    have e : b = s1.heap.objs.size := by simpa using hb
    subst e
    exact I1.fpOk (Nat.le_refl _) (I1.hok.fresh (Nat.le_refl _))
theorem i_seq (hl : PE X l (cE X.K qe)) : PI X tg l (cI X.K (qiSeq qe)) := PI.wk (pi_seq hl) fun σ H R h => by
  obtain ⟨ρ, G, Q, e, a, q, f⟩ := h
  refine ⟨ρ, G, _, e, a, q, fun v H1 t G1 k1 a1 r1 q1 => ?_⟩
  split at q1
  · obtain ⟨p, vs, rfl, hp, r⟩ := r1
    exact ⟨p, rfl, .inr ⟨⟨vs, SqT.of hp⟩, f _ H1 _ _ G1 k1 a1 (wt_tup hp r) q1⟩⟩
  · cases r1
    obtain ⟨ts, hg, q1⟩ := q1
    obtain ⟨vs, hp, r⟩ := a1 _ _ hg
    exact ⟨_, rfl, .inl ⟨⟨vs, SqL.of hp⟩, f _ H1 _ _ G1 k1 a1 wt_list q1⟩⟩
  · exact q1.elim
/-- t * n, a tuple -/
def fMulT : Q2 := fun x y G Q => match x, y with
  | .int i, .int j => MulOk i j ∧ Q (.int (i * j)) G
  | .tup ts, .int k => ts ≠ [] ∧ 2 ≤ k ∧ k ≤ 1000 ∧ ts.length ≤ 1000 ∧ Q (.tup (List.replicate k.toNat ts).flatten) G
  | _, _ => False
theorem o_mul : OpR X (binaryOp .Mult) (c2 X.K fMulT) := by
  intro pins s σ H v w u u' KQ I rv rw' h2
  obtain ⟨x, y, G, Q, hx, hy, ha, hf, hk⟩ := h2
  unfold fMulT at hf
  split at hf
  · exact op_mulW pins s σ H v w u u' KQ I rv rw' ⟨_, _, hx, hy, hf.1.w, hk _ H (.int _) G (Tups.refl H) ha rfl hf.2⟩
  · rename_i ts k
    obtain ⟨h1, h2, h3, h4, hf⟩ := hf
    obtain ⟨p, vs, rfl, hp, r⟩ := hx
    refine op_repT pins s σ H _ _ u u' KQ I rv rw' ⟨p, k, vs, rfl, hy, SqT.of hp, fun e => h1 (by subst e; exact List.eq_nil_of_length_eq_zero r.length.symm), h2, h3, by rw [r.length]; exact h4, fun l hl => ?_⟩
    have kk : Tups H (upd H l (.tup (List.replicate k.toNat vs).flatten)) := Tups.new hl
    exact hk _ _ (.tup (List.replicate k.toNat ts).flatten) G kk (ha.grow hl) ⟨l, _, rfl, upd_same, (r.flat k.toNat).mono kk⟩ hf
  · exact hf.elim
/-! ### == of data -/
/-- a value without objects of its own, as data -/
def pd : T → Option PyData
  | .non => some .none
  | .bl b => some (.bool b)
  | .int i => some (.int i)
  | .str x => some (.str x)
  | .tup ts => (pds ts).map PyData.tuple
  | _ => none
where pds : List T → Option (List PyData)
  | [] => some []
  | t :: ts => match pd t, pds ts with | some d, some ds => some (d :: ds) | _, _ => none
end
end Lw

set_option Elab.async false
set_option linter.all false
set_option maxRecDepth 100000
set_option maxHeartbeats 4000000
namespace Lw
open PySem PySem.Spec PyProof.Rows L2

/-! ### == of values without objects -/
mutual
def pdT : T → PyData
  | .non => .none
  | .bl b => .bool b
  | .int i => .int i
  | .str x => .str x
  | .tup ts => .tuple (pdTs ts)
  | _ => .none
def pdTs : List T → List PyData
  | [] => []
  | t :: ts => pdT t :: pdTs ts
end
mutual
def okT : T → Bool
  | .non => true
  | .bl _ => true
  | .int _ => true
  | .str x => PyData.strOk x
  | .tup ts => okTs ts
  | _ => false
def okTs : List T → Bool
  | [] => true
  | t :: ts => okT t && okTs ts
end
mutual
def dpT : T → Nat
  | .tup ts => dpTs ts + 1
  | _ => 0
def dpTs : List T → Nat
  | [] => 0
  | t :: ts => max (dpT t) (dpTs ts)
end
mutual
def teq : T → T → Bool
  | .non, .non => true
  | .bl a, .bl b => a == b
  | .bl a, .int j => (if a then 1 else 0) == j
  | .int i, .bl b => i == (if b then 1 else 0)
  | .int i, .int j => decide (i = j)
  | .str x, .str y => decide (x = y)
  | .tup xs, .tup ys => teqs xs ys
  | _, _ => false
def teqs : List T → List T → Bool
  | [], [] => true
  | x :: xs, y :: ys => teq x y && teqs xs ys
  | _, _ => false
end
mutual
theorem pd_can : ∀ t : T, okT t = true → PyData.canLay0 (pdT t) = true
  | .non, _ => rfl
  | .bl _, _ => rfl
  | .int _, _ => rfl
  | .str x, h => h
  | .tup ts, h => pds_can ts h
  | .ref _, h => by cases h
  | .ty _, h => by cases h
  | .scr _, h => by cases h
theorem pds_can : ∀ ts : List T, okTs ts = true → PyData.canLayAll0 (pdTs ts) = true
  | [], _ => rfl
  | t :: ts, h => by
    have h' : (okT t && okTs ts) = true := h
    rw [Bool.and_eq_true] at h'
    show (PyData.canLay0 (pdT t) && PyData.canLayAll0 (pdTs ts)) = true
    rw [pd_can t h'.1, pds_can ts h'.2]; rfl
end
mutual
theorem pd_eqv : ∀ t u : T, okT t = true → okT u = true → PyData.eqv (pdT t) (pdT u) = teq t u := by
  intro t u ht hu
  cases t <;> cases u <;> first
    | rfl
    | (simp only [pdT, PyData.eqv, teq]; done)
    | exact absurd ht Bool.false_ne_true
    | exact absurd hu Bool.false_ne_true
    | (simp only [pdT, PyData.eqv, teq, Bool.beq_eq_decide_eq]; done)
    | (simp only [pdT, PyData.eqv, teq]; exact pds_eqv _ _ ht hu)
theorem pds_eqv : ∀ ts us : List T, okTs ts = true → okTs us = true → PyData.eqvAll (pdTs ts) (pdTs us) = teqs ts us
  | [], [], _, _ => rfl
  | [], _ :: _, _, _ => rfl
  | _ :: _, [], _, _ => rfl
  | t :: ts, u :: us, h, h2 => by
    have h' : (okT t && okTs ts) = true := h
    have h2' : (okT u && okTs us) = true := h2
    rw [Bool.and_eq_true] at h' h2'
    show (PyData.eqv (pdT t) (pdT u) && PyData.eqvAll (pdTs ts) (pdTs us)) = (teq t u && teqs ts us)
    rw [pd_eqv t u h'.1 h2'.1, pds_eqv ts us h'.2 h2'.2]
end
mutual
theorem pd_depth : ∀ t : T, okT t = true → (pdT t).depth ≤ dpT t + 1
  | .non, _ => by decide
  | .bl _, _ => by simp [pdT, PyData.depth]
  | .int _, _ => by simp [pdT, PyData.depth]
  | .str x, h => by simp [pdT, PyData.depth]
  | .tup ts, h => by
    have := pds_depth ts h
    show PyData.depth (.tuple (pdTs ts)) ≤ dpTs ts + 1 + 1
    simp only [PyData.depth]
    omega
  | .ref _, h => by cases h
  | .ty _, h => by cases h
  | .scr _, h => by cases h
theorem pds_depth : ∀ ts : List T, okTs ts = true → PyData.depthAll (pdTs ts) ≤ dpTs ts + 1
  | [], _ => by simp [pdTs, PyData.depthAll]
  | t :: ts, h => by
    have h' : (okT t && okTs ts) = true := h
    rw [Bool.and_eq_true] at h'
    have h1 := pd_depth t h'.1
    have h2 := pds_depth ts h'.2
    show PyData.depthAll (pdT t :: pdTs ts) ≤ max (dpT t) (dpTs ts) + 1
    simp only [PyData.depthAll]
    omega
end
mutual
theorem pd_dp {K : PySem.W.Frag} {H : Hp} : ∀ (t : T) (v : V), okT t = true → Rp K H t v → Dp K H v (pdT t)
  | .non, _, _, h => by cases h; exact .non
  | .bl b, _, _, h => by cases h; exact .bl b
  | .int i, _, _, h => by cases h; exact .int i
  | .str x, _, _, h => by cases h; exact .str x
  | .tup ts, _, o, ⟨a, vs, e, h, r⟩ => by subst e; exact .tup (SqT.of h) (pds_dp ts vs o r)
  | .ref _, _, o, _ => by cases o
  | .ty _, _, o, _ => by cases o
  | .scr _, _, o, _ => by cases o
theorem pds_dp {K : PySem.W.Frag} {H : Hp} : ∀ (ts : List T) (vs : List V), okTs ts = true → RpL K H ts vs → DpAll K H vs (pdTs ts)
  | [], _, _, h => by rw [show _ = [] from h]; exact .nil
  | t :: ts, _, o, ⟨v, r, e, h, hr⟩ => by
    have h' : (okT t && okTs ts) = true := o
    rw [Bool.and_eq_true] at h'
    subst e
    exact .cons (pd_dp t v h'.1 h) (pds_dp ts r h'.2 hr)
end
/-- what == asks of a value: no objects in it, not too deep -/
def eqOk (t : T) : Bool := okT t && decide (dpT t ≤ 50)
def eqOks (ts : List T) : Bool := okTs ts && decide (dpTs ts ≤ 50)
theorem eqOk_ok {t : T} (h : eqOk t = true) : okT t = true := ((Bool.and_eq_true _ _).mp h).1
theorem eqOk_dp {t : T} (h : eqOk t = true) : dpT t ≤ 50 := of_decide_eq_true ((Bool.and_eq_true _ _).mp h).2
theorem eqOks_ok {t : List T} (h : eqOks t = true) : okTs t = true := ((Bool.and_eq_true _ _).mp h).1
theorem eqOks_dp {t : List T} (h : eqOks t = true) : dpTs t ≤ 50 := of_decide_eq_true ((Bool.and_eq_true _ _).mp h).2
def fEq (neg : Bool) : Q2 := fun x y G Q => match x, y with
  | .int i, .int j => Q (.bl (neg != decide (i = j))) G
  | .str i, .str j => Q (.bl (neg != decide (i = j))) G
  | .bl i, .bl j => Q (.bl (neg != decide (i = j))) G
  | .ref a, .ref b => ∃ xs ys, G a = some (.lst xs) ∧ G b = some (.lst ys) ∧ eqOks xs = true ∧ eqOks ys = true ∧ Q (.bl (neg != teqs xs ys)) G
  | .ref a, y => ∃ xs, G a = some (.lst xs) ∧ eqOks xs = true ∧ eqOk y = true ∧ Q (.bl neg) G
  | x, .ref a => ∃ xs, G a = some (.lst xs) ∧ eqOks xs = true ∧ eqOk x = true ∧ Q (.bl neg) G
  | x, y => eqOk x = true ∧ eqOk y = true ∧ Q (.bl (neg != teq x y)) G
section
variable {X : Cx}
theorem shp {t : T} (h : okT t = true) (d : dpT t ≤ 50) : SeqAt.shaped (pdT t) = true := by
  unfold SeqAt.shaped
  rw [pd_can t h]
  have := pd_depth t h
  exact decide_eq_true (by omega)
theorem shpL {ts : List T} (h : okTs ts = true) (d : dpTs ts ≤ 50) : SeqAt.shaped (.list (pdTs ts)) = true := by
  unfold SeqAt.shaped
  have e : PyData.canLay0 (.list (pdTs ts)) = true := pds_can ts h
  rw [e]
  have := pds_depth ts h
  exact decide_eq_true (by simp only [PyData.depth]; omega)
theorem eqv_list_no {xs : List PyData} {t : T} (h : okT t = true) : PyData.eqv (.list xs) (pdT t) = false := by
  cases t <;> first | rfl | (simp only [pdT, PyData.eqv]; done) | cases h
theorem eqv_no_list {xs : List PyData} {t : T} (h : okT t = true) : PyData.eqv (pdT t) (.list xs) = false := by
  cases t <;> first | rfl | (simp only [pdT, PyData.eqv]; done) | cases h
theorem Abs.dlist {K : PySem.W.Frag} {H : Hp} {G : Gp} {a : Addr} {xs : List T} (ha : Abs K H G) (g : G a = some (.lst xs)) (o : okTs xs = true) : Dp K H (.ref a) (.list (pdTs xs)) := by
  obtain ⟨vs, hp, r⟩ := ha _ _ g
  exact .lst (SqL.of hp) (pds_dp xs vs o r)
theorem feq_dp {K : PySem.W.Frag} {neg : Bool} {x y : T} {v w : V} {H : Hp} {G : Gp} {Q : TK} (hx : Rp K H x v) (hy : Rp K H y w) (ha : Abs K H G) (hf : fEq neg x y G Q) :
    (∃ d e, Dp K H v d ∧ Dp K H w e ∧ SeqAt.shaped d = true ∧ SeqAt.shaped e = true ∧ Q (.bl (neg != PyData.eqv d e)) G) ∨ ∃ i j, v = .str i ∧ w = .str j ∧ Q (.bl (neg != decide (i = j))) G := by
  unfold fEq at hf
  split at hf
  · cases hx; cases hy
    exact .inl ⟨_, _, .int _, .int _, rfl, rfl, by simp only [PyData.eqv, Bool.beq_eq_decide_eq]; exact hf⟩
  · cases hx; cases hy
    exact .inr ⟨_, _, rfl, rfl, hf⟩
  · cases hx; cases hy
    exact .inl ⟨_, _, .bl _, .bl _, rfl, rfl, by simp only [PyData.eqv, Bool.beq_eq_decide_eq]; exact hf⟩
  · obtain ⟨xs, ys, g1, g2, o1, o2, q⟩ := hf
    have d1 := eqOks_dp o1
    have d2 := eqOks_dp o2
    have o1 := eqOks_ok o1
    have o2 := eqOks_ok o2
    cases hx; cases hy
    exact .inl ⟨_, _, ha.dlist g1 o1, ha.dlist g2 o2, shpL o1 d1, shpL o2 d2, by rw [show PyData.eqv (.list (pdTs xs)) (.list (pdTs ys)) = teqs xs ys from by simp only [PyData.eqv]; exact pds_eqv xs ys o1 o2]; exact q⟩
  · obtain ⟨xs, g1, o1, o2, q⟩ := hf
    have d1 := eqOks_dp o1
    have d2 := eqOk_dp o2
    have o1 := eqOks_ok o1
    have o2 := eqOk_ok o2
    cases hx
    exact .inl ⟨_, _, ha.dlist g1 o1, pd_dp _ _ o2 hy, shpL o1 d1, shp o2 d2, by rw [eqv_list_no o2, Bool.bne_false]; exact q⟩
  · obtain ⟨xs, g1, o1, o2, q⟩ := hf
    have d1 := eqOks_dp o1
    have d2 := eqOk_dp o2
    have o1 := eqOks_ok o1
    have o2 := eqOk_ok o2
    cases hy
    exact .inl ⟨_, _, pd_dp _ _ o2 hx, ha.dlist g1 o1, shp o2 d2, shpL o1 d1, by rw [eqv_no_list o2, Bool.bne_false]; exact q⟩
  · obtain ⟨o1, o2, q⟩ := hf
    have d1 := eqOk_dp o1
    have d2 := eqOk_dp o2
    have o1 := eqOk_ok o1
    have o2 := eqOk_ok o2
    exact .inl ⟨_, _, pd_dp _ _ o1 hx, pd_dp _ _ o2 hy, shp o1 d1, shp o2 d2, by rw [pd_eqv _ _ o1 o2]; exact q⟩
theorem o_eq (hu : X.A.units + 64 < cLine) : OpR X (compareOp .Eq) (c2 X.K (fEq false)) := by
  intro pins s σ H v w u u' KQ I rv rw' h2
  obtain ⟨x, y, G, Q, hx, hy, ha, hf, hk⟩ := h2
  rcases feq_dp hx hy ha hf with ⟨d, e, d1, d2, s1, s2, q⟩ | ⟨i, j, rfl, rfl, q⟩
  case inr => exact op_eq pins s σ H _ _ u u' KQ I rv rw' ⟨rfl, hk _ H (.bl (decide (i = j))) G (Tups.refl H) ha (show V.bl _ = V.bl _ from congrArg V.bl (by by_cases e : i = j <;> simp [e])) (by rw [Bool.false_bne] at q; exact q)⟩
  exact op_eqD hu pins s σ H v w u u' KQ I rv rw' ⟨d, e, d1, d2, s1, s2, hk _ H (.bl _) G (Tups.refl H) ha rfl (by rw [Bool.false_bne] at q; exact q)⟩
theorem o_ne (hu : X.A.units + 64 < cLine) : OpR X (compareOp .NotEq) (c2 X.K (fEq true)) := by
  intro pins s σ H v w u u' KQ I rv rw' h2
  obtain ⟨x, y, G, Q, hx, hy, ha, hf, hk⟩ := h2
  rcases feq_dp hx hy ha hf with ⟨d, e, d1, d2, s1, s2, q⟩ | ⟨i, j, rfl, rfl, q⟩
  case inr => exact op_ne pins s σ H _ _ u u' KQ I rv rw' ⟨rfl, hk _ H (.bl (!decide (i = j))) G (Tups.refl H) ha (show V.bl _ = V.bl _ from congrArg V.bl (by by_cases e : i = j <;> simp [e])) (by rw [Bool.true_bne] at q; exact q)⟩
  exact op_neD hu pins s σ H v w u u' KQ I rv rw' ⟨d, e, d1, d2, s1, s2, hk _ H (.bl _) G (Tups.refl H) ha rfl (by rw [Bool.true_bne] at q; exact q)⟩
end
end Lw

set_option Elab.async false
set_option linter.all false
set_option maxRecDepth 100000
set_option maxHeartbeats 4000000
namespace Lw
open PySem PySem.Spec PyProof.Rows L2
section
variable {X : Cx}
/-! ### enumerate of a list or a tuple -/
def iEnumA (K : PySem.W.Frag) (ta : TA) : TI := fun σ H R => ta σ H fun vs H1 => ∃ a, vs = [.ref a] ∧ ((∃ xs, SqL K H1 a xs) ∧ R (Ite K a) H1 ∨ (∃ xs, SqT K H1 a xs) ∧ R (IteT K a) H1)
theorem pi_enumA {e : Expr} {ta : TA} {p pos tpos : Pos} {elts : List Expr} {kk : Nat} (hg : Gl X "enumerate") (hm : X.mg "enumerate" = none) (ha : PA X [e] ta) (hs : starEach [e] X.env = [(false, eval e X.env)] := by rfl) :
    PI X (.Tuple elts kk tpos) (.Call (.Name "enumerate" p) [e] [] pos) (iEnumA X.K ta) := by
  refine ⟨fun pins s σ H R I h => ?_⟩
  refine Call_ (ld_blt I hg hm boot_enumerate (PyProof.Rows.callWith_type1 (thn (ha.run pos pins s σ H _ I h) fun us s1 ⟨vs, H1, I1, r1, q1⟩ => ?_) hs rfl))
  obtain ⟨a, ex, q⟩ := q1
  subst ex
  cases r1 with
  | cons r rr =>
    cases rr
    cases r
    have pins2 : ∀ b : Addr, b ∈ [s1.heap.objs.size + 1, s1.heap.objs.size] → FpOk X pins H1 b := fun b hb => by
      have e' : b = s1.heap.objs.size + 1 ∨ b = s1.heap.objs.size := by simpa using hb
      have hle : s1.heap.objs.size ≤ b := by
        rcases e' with z | z
        · rw [z]; exact Nat.le_add_right _ _
        · rw [z]; exact Nat.le_refl _
      exact I1.fpOk hle (I1.hok.fresh hle)
    rcases q with ⟨⟨xs, hq⟩, q⟩ | ⟨⟨xs, hq⟩, q⟩
    · obtain ⟨its, rv, p', hz⟩ := I1.list hq
      refine call_enumerate_list p'.isList fun h' he hit hsz hk => wpAny_pyIter_enum he ?_
      have I2 : Inv X pins σ H1 { s1 with heap := h' } := I1.kept (t' := s1.toks) hk
      exact ⟨s1.heap.objs.size + 1, [s1.heap.objs.size + 1, s1.heap.objs.size], _, _, H1, rfl, I2, turn_enum a (s1.heap.objs.size + 1) s1.heap.objs.size, ⟨⟨.none, he⟩, hit, Nat.succ_ne_self _⟩, pins2, q⟩
    · obtain ⟨its, rv, p', hz⟩ := I1.tuple hq
      refine enum1_begins (begins_tuple a its.toArray) (show s1.heap.IsTuple a its.toArray from p') fun h' he hit hsz hk => wpAny_pyIter_enum he ?_
      have I2 : Inv X pins σ H1 { s1 with heap := h' } := I1.kept (t' := s1.toks) hk
      exact ⟨s1.heap.objs.size + 1, [s1.heap.objs.size + 1, s1.heap.objs.size], _, _, H1, rfl, I2, turn_enumT a (s1.heap.objs.size + 1) s1.heap.objs.size, ⟨⟨.none, he⟩, ⟨_, hit, rfl, rfl⟩, Nat.succ_ne_self _⟩, pins2, q⟩
variable {qa : QA}
def qiEnum (qa : QA) : QI := fun ρ G R => qa ρ G fun ts G1 => match ts with
  | [.tup us] => R (enumT us) (fun _ => True) G1
  | [.ref a] => ∃ us, G1 a = some (.lst us) ∧ R (enumT us) (fun G => G a = some (.lst us)) G1
  | _ => False
theorem i_enum {e : Expr} {p pos tpos : Pos} {elts : List Expr} {kk : Nat} (hg : Gl X "enumerate") (hm : X.mg "enumerate" = none) (ha : PA X [e] (cA X.K qa)) (hs : starEach [e] X.env = [(false, eval e X.env)] := by rfl) :
    PI X (.Tuple elts kk tpos) (.Call (.Name "enumerate" p) [e] [] pos) (cI X.K (qiEnum qa)) := PI.wk (pi_enumA hg hm ha hs) fun σ H R h => by
  obtain ⟨ρ, G, Q, e, a, q, f⟩ := h
  refine ⟨ρ, G, _, e, a, q, fun vs H1 ts G1 k1 a1 r1 q1 => ?_⟩
  split at q1
  · obtain ⟨v, rfl, h1⟩ := rpl1 r1
    obtain ⟨p, ws, rfl, hp, r⟩ := h1
    exact ⟨p, rfl, .inr ⟨⟨ws, SqT.of hp⟩, f _ H1 _ _ G1 k1 a1 (wt_enumT hp r) q1⟩⟩
  · obtain ⟨v, rfl, h1⟩ := rpl1 r1
    cases h1
    obtain ⟨us, hg, q1⟩ := q1
    obtain ⟨ws, hp, r⟩ := a1 _ _ hg
    exact ⟨_, rfl, .inl ⟨⟨ws, SqL.of hp⟩, f _ H1 _ _ G1 k1 a1 wt_enum q1⟩⟩
  · exact q1.elim
/-! ### module constants, the negative -/
theorem e_glI {x : Str} {n : Int} {pos : Pos} (hg : Gl X x) (hm : ∃ t, X.mg x = some (.int n t)) (hd : (x == ("__debug__" : Str)) = false := by decide) : PE X (.Name x pos) (cE X.K (qC (.int n))) := by
  obtain ⟨t, hm⟩ := hm
  exact e_glob (v := .int n) hg hm ⟨t, rfl⟩ (fun _ => rfl) hd
theorem e_glS {x z : Str} {pos : Pos} (hg : Gl X x) (hm : ∃ t, X.mg x = some (.str z t)) (hd : (x == ("__debug__" : Str)) = false := by decide) : PE X (.Name x pos) (cE X.K (qC (.str z))) := by
  obtain ⟨t, hm⟩ := hm
  exact e_glob (v := .str z) hg hm ⟨t, rfl⟩ (fun _ => rfl) hd
def qUn (f : Q1) (qa : QE) : QE := fun ρ G Q => qa ρ G fun x G1 => f x G1 Q
def fNeg : Q1 := fun x G Q => match x with | .int i => Q (.int (-i)) G | _ => False
theorem e_neg {a : Expr} {qe : QE} {pos : Pos} (ha : PE X a (cE X.K qe)) : PE X (.UnaryOp .USub a pos) (cE X.K (qUn fNeg qe)) := PE.wk (pe_un un_neg ha) fun σ H KQ h => by
  obtain ⟨ρ, G, Q, e, a, q, f⟩ := h
  refine ⟨ρ, G, _, e, a, q, fun v H1 t G1 k1 a1 r1 q1 => ?_⟩
  unfold fNeg at q1
  split at q1
  · cases r1
    exact ⟨_, rfl, f _ H1 (.int _) G1 k1 a1 rfl q1⟩
  · exact q1.elim
/-! ### two comparisons in a row -/
variable {a b c : Expr} {qa qb qc : QE} {f g : Q2} {pos : Pos} {op op' : CmpOp}
theorem chain_wk : ∀ σ H KQ, cE X.K (qChain f g qa qb qc) σ H KQ → tChain (c2 X.K f) (c2 X.K g) (cE X.K qa) (cE X.K qb) (cE X.K qc) σ H KQ := fun σ H KQ h => by
  obtain ⟨ρ, G, Q, e, a, q, k⟩ := h
  refine ⟨ρ, G, _, e, a, q, fun v H1 t G1 k1 a1 r1 q1 => ?_⟩
  refine ⟨ρ, G1, _, e.mono k1, a1, q1, fun w H2 u G2 k2 a2 r2 q2 => ?_⟩
  refine ⟨t, u, G2, _, r1.mono k2, r2, a2, q2, fun z H3 z' G3 k3 a3 r3 q3 => ?_⟩
  have kk := (k1.trans k2).trans k3
  split at q3
  · rename_i kb
    cases r3
    refine ⟨kb, rfl, ?_⟩
    cases kb with
    | true =>
      rw [if_pos rfl]
      exact ⟨ρ, G3, _, e.mono kk, a3, q3.1 rfl, fun w4 H4 t4 G4 k4 a4 r4 q4 => ⟨u, t4, G4, Q, (r2.mono k3).mono k4, r4, a4, q4, k.from (kk.trans k4)⟩⟩
    | false =>
      rw [if_neg Bool.false_ne_true]
      exact k (.bl false) H3 (.bl false) G3 kk a3 rfl (q3.2 rfl)
  · exact q3.elim
theorem e_chain (ho : OpR X (compareOp op) (c2 X.K f)) (ho' : OpR X (compareOp op') (c2 X.K g)) (ha : PE X a (cE X.K qa)) (hb : PE X b (cE X.K qb)) (hc : PE X c (cE X.K qc)) (hm : lastMarks [op, op'] [b, c] = false := by with_unfolding_all rfl) :
    PE X (.Compare a [op, op'] [b, c] pos) (cE X.K (qChain f g qa qb qc)) := PE.wk (pe_chain ho ho' ha hb hc hm) chain_wk
theorem t_chain (ho : OpR X (compareOp op) (c2 X.K f)) (ho' : OpR X (compareOp op') (c2 X.K g)) (ha : PE X a (cE X.K qa)) (hb : PE X b (cE X.K qb)) (hc : PE X c (cE X.K qc)) (hm : lastMarks [op, op'] [b, c] = false := by with_unfolding_all rfl) :
    PT X (.Compare a [op, op'] [b, c] pos) (cT X.K (qTB (qChain f g qa qb qc))) := PT.wk (pt_chain ho ho' ha hb hc hm) fun σ H KQ h => by
  obtain ⟨ρ, G, Q, e, a, q, k⟩ := h
  refine chain_wk σ H _ ⟨ρ, G, _, e, a, q, fun v H1 t G1 k1 a1 r1 q1 => ?_⟩
  cases t with
  | bl b => exact ⟨b, r1, k b H1 G1 k1 a1 q1⟩
  | _ => exact q1.elim
end
end Lw

set_option Elab.async false
set_option linter.all false
set_option maxRecDepth 100000
set_option maxHeartbeats 4000000
namespace Lw
open PySem PySem.Spec PyProof.Rows L2
/-! ### isinstance -/
def isT : T → TyN → Bool
  | .int _, .int => true
  | .bl _, .int => true
  | .bl _, .bool => true
  | .str _, .str => true
  | .tup _, .tuple => true
  | _, _ => false
def isL : TyN → Bool
  | .list => true
  | _ => false
def isAny (f : TyN → Bool) : List T → Option Bool
  | [] => some false
  | .ty n :: r => (isAny f r).map fun b => f n || b
  | _ => none
def clsT (f : TyN → Bool) : T → Option Bool
  | .ty n => some (f n)
  | .tup cs => isAny f cs
  | _ => none
def isPure : T → Bool
  | .non => true
  | .bl _ => true
  | .int _ => true
  | .str _ => true
  | .tup _ => true
  | _ => false
def fIsi : QC := fun ts G Q => match ts with
  | [.ref a, c] => ∃ xs, G a = some (.lst xs) ∧ (match clsT isL c with | some b => Q (.bl b) G | none => False)
  | [x, c] => (match isPure x with | true => (match clsT (isT x) c with | some b => Q (.bl b) G | none => False) | false => False)
  | _ => False
theorem kit_none (n : TyN) : kitB "NoneType" n.name = some (isT .non n) := by cases n <;> decide +kernel
theorem kit_bool (n : TyN) : kitB "bool" n.name = some (isT (.bl true) n) := by cases n <;> decide +kernel
theorem kit_int (n : TyN) : kitB "int" n.name = some (isT (.int 0) n) := by cases n <;> decide +kernel
theorem kit_str (n : TyN) : kitB "str" n.name = some (isT (.str "") n) := by cases n <;> decide +kernel
theorem kit_tuple (n : TyN) : kitB "tuple" n.name = some (isT (.tup []) n) := by cases n <;> decide +kernel
theorem kit_list (n : TyN) : kitB "list" n.name = some (isL n) := by cases n <;> decide +kernel
theorem isT_bl (b c : Bool) (n : TyN) : isT (.bl b) n = isT (.bl c) n := by cases n <;> rfl
theorem isT_int (b c : Int) (n : TyN) : isT (.int b) n = isT (.int c) n := by cases n <;> rfl
theorem isT_str (b c : Str) (n : TyN) : isT (.str b) n = isT (.str c) n := by cases n <;> rfl
theorem isT_tup (b c : List T) (n : TyN) : isT (.tup b) n = isT (.tup c) n := by cases n <;> rfl
section
variable {X : Cx}
theorem isAny_ok {K : PySem.W.Frag} {H : Hp} {tn : String} {f : TyN → Bool} (hk : ∀ n : TyN, kitB tn n.name = some (f n)) : ∀ {cs : List T} {vs : List V} {b : Bool}, isAny f cs = some b → RpL K H cs vs →
    ∃ us : List Value, Paired ClsV vs us ∧ PySem.W.kitAny K (.type tn) us = some b
  | [], _, b, h, r => by
    rw [show _ = [] from r]
    cases h
    exact ⟨[], .nil, rfl⟩
  | c :: cs, _, b, h, ⟨v, vr, e, hv, hr⟩ => by
    subst e
    cases c with
    | ty n =>
      cases e2 : isAny f cs with
      | none => simp [isAny, e2] at h
      | some b' =>
        obtain ⟨us, p, k⟩ := isAny_ok hk e2 hr
        have hb : (f n || b') = b := by simpa [isAny, e2] using h
        rw [show v = V.ty n.name from hv]
        refine ⟨.type n.name :: us, .cons (.ty _) p, kitAny_cons (b := f n) (kit_ty (hk n)) (fun z => ?_) (fun z => ?_)⟩
        · rw [z, Bool.false_or] at hb; rw [k, hb]
        · rw [z, Bool.true_or] at hb; exact hb.symm
    | _ => simp [isAny] at h
theorem isi_go {pins : List (Addr × Obj)} {s : Shared} {σ : L2.St} {H : Hp} {v w : V} {u u' : Value} {KQ : VK} {c : T} {tn : String} {f : TyN → Bool} {b : Bool} {us : List Value} (I : Inv X pins σ H s) (r : Vals [v, w] us) (hc : Rp X.K H c w) (ty : TyX X.K H v (.type tn))
    (hk : ∀ n : TyN, kitB tn n.name = some (f n)) (h : clsT f c = some b) (q : KQ (.bl b) H) : wpAny (model X.prog X.w) X.A (call (.builtin "isinstance") us) (EP X pins σ KQ) X.xe s := by
  cases c with
  | ty n =>
    cases h
    rw [show w = V.ty n.name from hc] at r
    exact call_isi pins s σ H _ us KQ I r ⟨v, .ty n.name, .type tn, .type n.name, f n, rfl, .ty _, ty, kit_ty (hk n), q⟩
  | tup cs =>
    obtain ⟨p, vs, rfl, hp, rr⟩ := hc
    obtain ⟨us', pr, k⟩ := isAny_ok hk h rr
    exact call_isiT pins s σ H _ us KQ I r ⟨v, p, vs, .type tn, us', b, rfl, hp, pr, ty, k, q⟩
  | _ => cases h
theorem b_isi : CallR X (.builtin "isinstance") (cC X.K fIsi) := by
  intro pins s σ H vs us KQ I r h
  obtain ⟨ts, G, Q, hr, ha, hf, hk⟩ := h
  have fin : ∀ b : Bool, Q (.bl b) G → KQ (.bl b) H := fun b q => hk _ H (.bl b) G (Tups.refl H) ha rfl q
  unfold fIsi at hf
  split at hf
  · rename_i a c
    obtain ⟨v, w, rfl, h1, h2⟩ := rpl2 hr
    cases h1
    obtain ⟨xs, hg, hf⟩ := hf
    obtain ⟨ws, hp, rr⟩ := ha _ _ hg
    split at hf
    · rename_i b hb
      exact isi_go (u := .none) (u' := .none) I r h2 (.base (.lst hp)) kit_list hb (fin b hf)
    · exact hf.elim
  · rename_i x c _
    obtain ⟨v, w, rfl, h1, h2⟩ := rpl2 hr
    split at hf
    · split at hf
      · rename_i b hb
        cases x with
        | non => cases h1; exact isi_go (u := .none) (u' := .none) I r h2 (.base .non) kit_none hb (fin b hf)
        | bl k => cases h1; exact isi_go (u := .none) (u' := .none) I r h2 (.base (.bl k)) (fun n => by rw [isT_bl k true]; exact kit_bool n) hb (fin b hf)
        | int k => cases h1; exact isi_go (u := .none) (u' := .none) I r h2 (.base (.int k)) (fun n => by rw [isT_int k 0]; exact kit_int n) hb (fin b hf)
        | str k => cases h1; exact isi_go (u := .none) (u' := .none) I r h2 (.base (.str k)) (fun n => by rw [isT_str k ""]; exact kit_str n) hb (fin b hf)
        | tup k =>
          obtain ⟨p, vs, rfl, hp, rr⟩ := h1
          exact isi_go (u := .none) (u' := .none) I r h2 (.base (.tup hp)) (fun n => by rw [isT_tup k []]; exact kit_tuple n) hb (fin b hf)
        | ref k => rename_i e; cases e
        | ty k => rename_i e; cases e
        | scr k => rename_i e; cases e
      · exact hf.elim
    · exact hf.elim
  · exact hf.elim
/-! ### is, is not: None and bools -/
def isN : T → Bool
  | .non => true
  | _ => false
def fIs (neg : Bool) : Q2 := fun x y G Q => match x, y with
  | x, .non => Q (.bl (neg != isN x)) G
  | .bl a, .bl b => Q (.bl (neg != decide (a = b))) G
  | _, _ => False
theorem rp_non {K : PySem.W.Frag} {H : Hp} {x : T} {v : V} (h : Rp K H x v) : decide (v = .non) = isN x := by
  cases x with
  | non => cases h; rfl
  | bl b => cases h; rfl
  | int b => cases h; rfl
  | str b => cases h; rfl
  | tup b => obtain ⟨a, vs, rfl, _⟩ := h; rfl
  | ref b => cases h; rfl
  | ty b => cases h; rfl
  | scr b => obtain ⟨a, rfl, _⟩ := h; rfl
theorem o_is : OpR X (compareOp .Is) (c2 X.K (fIs false)) := by
  intro pins s σ H v w u u' KQ I rv rw' h2
  obtain ⟨x, y, G, Q, hx, hy, ha, hf, hk⟩ := h2
  unfold fIs at hf
  split at hf
  · cases hy
    exact op_isN pins s σ H _ _ u u' KQ I rv rw' ⟨rfl, hk _ H (.bl _) G (Tups.refl H) ha (show V.bl _ = V.bl _ by rw [rp_non hx]) (by rw [Bool.false_bne] at hf; exact hf)⟩
  · cases hx; cases hy
    exact op_isBl pins s σ H _ _ u u' KQ I rv rw' ⟨_, _, rfl, rfl, hk _ H (.bl _) G (Tups.refl H) ha rfl (by rw [Bool.false_bne] at hf; exact hf)⟩
  · exact hf.elim
theorem o_isnot : OpR X (compareOp .IsNot) (c2 X.K (fIs true)) := by
  intro pins s σ H v w u u' KQ I rv rw' h2
  obtain ⟨x, y, G, Q, hx, hy, ha, hf, hk⟩ := h2
  unfold fIs at hf
  split at hf
  · cases hy
    exact op_notN pins s σ H _ _ u u' KQ I rv rw' ⟨rfl, hk _ H (.bl _) G (Tups.refl H) ha (show V.bl _ = V.bl _ by rw [rp_non hx]) (by rw [Bool.true_bne] at hf; exact hf)⟩
  · cases hx; cases hy
    exact op_notBl pins s σ H _ _ u u' KQ I rv rw' ⟨_, _, rfl, rfl, hk _ H (.bl _) G (Tups.refl H) ha rfl (by rw [Bool.true_bne] at hf; exact hf)⟩
  · exact hf.elim
/-! ### all, any of bools -/
def fAll : QC := fun ts G Q => match ts with
  | [.ref a] => ∃ bs : List Bool, G a = some (.lst (bs.map T.bl)) ∧ Q (.bl (bs.all id)) G
  | _ => False
def fAny : QC := fun ts G Q => match ts with
  | [.ref a] => ∃ bs : List Bool, G a = some (.lst (bs.map T.bl)) ∧ Q (.bl (bs.any id)) G
  | _ => False
theorem RpL.bls {K : PySem.W.Frag} {H : Hp} : ∀ {ns : List Bool} {vs : List V}, RpL K H (ns.map T.bl) vs → vs = ns.map V.bl
  | [], _, h => h
  | n :: ns, _, ⟨v, r, e, h, hr⟩ => by rw [e, show v = V.bl n from h, RpL.bls hr]; rfl
theorem b_all (hc : X.calm = true) : CallR X (.builtin "all") (cC X.K fAll) := by
  intro pins s σ H vs us KQ I r h
  obtain ⟨ts, G, Q, hr, ha, hf, hk⟩ := h
  unfold fAll at hf
  split at hf
  · obtain ⟨v, rfl, h1⟩ := rpl1 hr
    cases h1
    obtain ⟨bs, hg, hf⟩ := hf
    obtain ⟨ws, hp, rr⟩ := ha _ _ hg
    rw [rr.bls] at hp
    exact cr_all hc pins s σ H _ us KQ I r ⟨_, bs, rfl, SqL.of hp, hk _ H (.bl _) G (Tups.refl H) ha rfl hf⟩
  · exact hf.elim
theorem b_any (hc : X.calm = true) : CallR X (.builtin "any") (cC X.K fAny) := by
  intro pins s σ H vs us KQ I r h
  obtain ⟨ts, G, Q, hr, ha, hf, hk⟩ := h
  unfold fAny at hf
  split at hf
  · obtain ⟨v, rfl, h1⟩ := rpl1 hr
    cases h1
    obtain ⟨bs, hg, hf⟩ := hf
    obtain ⟨ws, hp, rr⟩ := ha _ _ hg
    rw [rr.bls] at hp
    exact cr_any hc pins s σ H _ us KQ I r ⟨_, bs, rfl, SqL.of hp, hk _ H (.bl _) G (Tups.refl H) ha rfl hf⟩
  · exact hf.elim
/-! ### slices -/
abbrev QO := REnv → Gp → (Option Int → Gp → Prop) → Prop
def cO (K : PySem.W.Frag) (q : QO) : TO := fun σ H KQ => ∃ ρ G Q, EnvR K H ρ σ ∧ Abs K H G ∧ q ρ G Q ∧ ∀ o H' G', Tups H H' → Abs K H' G' → Q o G' → KQ o H'
def qoN : QO := fun _ G Q => Q none G
def qoS (qe : QE) : QO := fun ρ G Q => qe ρ G fun x G1 => match x with | .int i => Q (some i) G1 | _ => False
theorem PO.wk {e : Option Expr} {t t' : TO} (h : PO X e t) (w : ∀ σ H Q, t' σ H Q → t σ H Q) : PO X e t' := ⟨fun p s σ H Q I q => h.run p s σ H Q I (w σ H Q q)⟩
theorem o_none : PO X none (cO X.K qoN) := PO.wk po_none fun σ H KQ h => by
  obtain ⟨ρ, G, Q, e, a, q, f⟩ := h
  exact f none H G (Tups.refl H) a q
theorem o_some {e : Expr} {qe : QE} (h : PE X e (cE X.K qe)) : PO X (some e) (cO X.K (qoS qe)) := PO.wk (po_some h) fun σ H KQ h => by
  obtain ⟨ρ, G, Q, e, a, q, f⟩ := h
  refine ⟨ρ, G, _, e, a, q, fun v H1 t G1 k1 a1 r1 q1 => ?_⟩
  cases t with
  | int i => cases r1; exact ⟨i, rfl, f (some i) H1 G1 k1 a1 q1⟩
  | _ => exact q1.elim
def cutT {α : Type} (xs : List α) (lo hi : Option Int) : List α := (xs.drop (HT.sIx xs.length 0 lo)).take (HT.sIx xs.length xs.length hi - HT.sIx xs.length 0 lo)
abbrev QSl := T → Option Int → Option Int → Gp → TK → Prop
def fSl : QSl := fun x lo hi G Q => match x with
  | .tup ts => Q (.tup (cutT ts lo hi)) G
  | .ref a => ∃ ts, G a = some (.lst ts) ∧ ∀ p, G p = none → Q (.ref p) (gput G p (.lst (cutT ts lo hi)))
  | .str z => z.length ≤ 100000 ∧ Q (.str ⟨(cutT z.cps.toList lo hi).toArray⟩) G
  | _ => False
def cSl (K : PySem.W.Frag) (f : QSl) : V → Option Int → Option Int → Hp → VK → Prop := fun v lo hi H KQ => ∃ x G Q, Rp K H x v ∧ Abs K H G ∧ f x lo hi G Q ∧ Fol K H Q KQ
theorem RpL.cut {K : PySem.W.Frag} {H : Hp} {ts : List T} {vs : List V} (r : RpL K H ts vs) (lo hi : Option Int) : RpL K H (cutT ts lo hi) (cutV vs lo hi) := by
  unfold cutT cutV
  rw [r.length]
  exact (r.drop _).take _
theorem sl_seq : SlR X (cSl X.K fSl) := by
  intro pins s σ H v u vl vu lo hi sl KQ I rx hs pl pu h
  obtain ⟨x, G, Q, hx, ha, hf, hk⟩ := h
  unfold fSl at hf
  split at hf
  · rename_i ts
    obtain ⟨p, vs, rfl, hp, r⟩ := hx
    refine sl_tupA pins s σ H _ u vl vu lo hi sl KQ I rx hs pl pu ⟨p, vs, rfl, SqT.of hp, fun e => ?_, fun e q hq => ?_⟩
    · have ec : cutT ts lo hi = ts := by
        unfold cutT
        rw [← r.length, e.1, e.2, List.drop_zero, Nat.sub_zero, r.length, List.take_length]
      rw [ec] at hf
      exact hk _ H (.tup ts) G (Tups.refl H) ha ⟨p, vs, rfl, hp, r⟩ hf
    · have k : Tups H (upd H q (.tup (cutV vs lo hi))) := Tups.new hq
      exact hk _ _ (.tup _) G k (ha.grow hq) ⟨q, _, rfl, upd_same, (r.cut lo hi).mono k⟩ hf
  · obtain ⟨ts, hg, hf⟩ := hf
    cases hx
    obtain ⟨vs, hp, r⟩ := ha _ _ hg
    refine sl_list pins s σ H _ u vl vu lo hi sl KQ I rx hs pl pu ⟨_, vs, rfl, SqL.of hp, fun q hq => ?_⟩
    have k : Tups H (upd H q (.lst (cutV vs lo hi))) := Tups.new hq
    exact hk _ _ _ _ k (ha.put (o := .lst (cutT ts lo hi)) ⟨fun xs z => (by rw [hq] at z; cases z), fun o xs z => (by rw [hq] at z; cases z)⟩ ⟨_, upd_same, (r.cut lo hi).mono k⟩) (show Rp X.K _ (.ref q) _ from rfl) (hf q (ha.free hq))
  · cases hx
    exact sl_str pins s σ H _ u vl vu lo hi sl KQ I rx hs pl pu ⟨_, rfl, sz100 hf.1, hk _ H (.str _) G (Tups.refl H) ha rfl hf.2⟩
  · exact hf.elim
def qSl (f : QSl) (qe : QE) (ql qh : QO) : QE := fun ρ G Q => qe ρ G fun x G1 => ql ρ G1 fun l G2 => qh ρ G2 fun u G3 => f x l u G3 Q
theorem e_slice {f : QSl} {e : Expr} {lo hi : Option Expr} {qe : QE} {ql qh : QO} {p2 pos : Pos} (hr : SlR X (cSl X.K f)) (he : PE X e (cE X.K qe)) (hl : PO X lo (cO X.K ql)) (hu : PO X hi (cO X.K qh)) :
    PE X (.Subscript e (.Slice lo hi none p2) pos) (cE X.K (qSl f qe ql qh)) := PE.wk (pe_slice hr he hl hu) fun σ H KQ h => by
  obtain ⟨ρ, G, Q, e, a, q, g⟩ := h
  refine ⟨ρ, G, _, e, a, q, fun v H1 t G1 k1 a1 r1 q1 => ?_⟩
  refine ⟨ρ, G1, _, e.mono k1, a1, q1, fun l H2 G2 k2 a2 q2 => ?_⟩
  refine ⟨ρ, G2, _, e.mono (k1.trans k2), a2, q2, fun u H3 G3 k3 a3 q3 => ?_⟩
  exact ⟨t, G3, Q, r1.mono (k2.trans k3), a3, q3, g.from ((k1.trans k2).trans k3)⟩
end
end Lw

set_option Elab.async false
set_option linter.all false
set_option maxRecDepth 100000
set_option maxHeartbeats 4000000
namespace Lw
open PySem PySem.Spec PyProof.Rows L2
section
variable {X : Cx} {a b : Expr} {rest : List Expr} {pos : Pos} {qa qb : QE} {tA tB' : QT}
/-! ### and, or whose second part changes nothing: one way -/
def qOrVP (t u : QE) : QE := fun ρ G Q => t ρ G fun x G1 => match x with | .bl c => ∃ d, u ρ G1 (fun y G2 => y = .bl d ∧ G2 = G1) ∧ Q (.bl (c || d)) G1 | _ => False
def qAndVP (t u : QE) : QE := fun ρ G Q => t ρ G fun x G1 => match x with | .bl c => ∃ d, u ρ G1 (fun y G2 => y = .bl d ∧ G2 = G1) ∧ Q (.bl (c && d)) G1 | _ => False
def qOrP (t u : QT) : QT := fun ρ G Q => t ρ G fun c G1 => ∃ d, u ρ G1 (fun y G2 => y = d ∧ G2 = G1) ∧ Q (c || d) G1
def qAndP (t u : QT) : QT := fun ρ G Q => t ρ G fun c G1 => ∃ d, u ρ G1 (fun y G2 => y = d ∧ G2 = G1) ∧ Q (c && d) G1
theorem e_orP (ha : PE X a (cE X.K qa)) (hb : PE X (.BoolOp .Or (b :: rest) pos) (cE X.K qb)) : PE X (.BoolOp .Or (a :: b :: rest) pos) (cE X.K (qOrVP qa qb)) := PE.wk (pe_or ha hb) fun σ H KQ h => by
  obtain ⟨ρ, G, Q, e, a, q, f⟩ := h
  refine ⟨ρ, G, _, e, a, q, fun v H1 t G1 k1 a1 r1 q1 => ?_⟩
  cases t with
  | bl b =>
    refine ⟨b, r1, ?_⟩
    obtain ⟨d, hd, q1⟩ := q1
    cases b with
    | true => exact f (.bl true) H1 (.bl true) G1 k1 a1 rfl q1
    | false => exact ⟨ρ, G1, _, e.mono k1, a1, hd, fun v H2 t G2 k2 a2 r2 ⟨e1, e2⟩ => by subst e1 e2; exact f v H2 (.bl d) _ (k1.trans k2) a2 r2 q1⟩
  | _ => exact q1.elim
theorem e_andP (ha : PE X a (cE X.K qa)) (hb : PE X (.BoolOp .And (b :: rest) pos) (cE X.K qb)) : PE X (.BoolOp .And (a :: b :: rest) pos) (cE X.K (qAndVP qa qb)) := PE.wk (pe_and ha hb) fun σ H KQ h => by
  obtain ⟨ρ, G, Q, e, a, q, f⟩ := h
  refine ⟨ρ, G, _, e, a, q, fun v H1 t G1 k1 a1 r1 q1 => ?_⟩
  cases t with
  | bl b =>
    refine ⟨b, r1, ?_⟩
    obtain ⟨d, hd, q1⟩ := q1
    cases b with
    | false => exact f (.bl false) H1 (.bl false) G1 k1 a1 rfl q1
    | true => exact ⟨ρ, G1, _, e.mono k1, a1, hd, fun v H2 t G2 k2 a2 r2 ⟨e1, e2⟩ => by subst e1 e2; exact f v H2 (.bl d) _ (k1.trans k2) a2 r2 q1⟩
  | _ => exact q1.elim
theorem w_orP (ha : PT X a (cT X.K tA)) (hb : PW X (.BoolOp .Or (b :: rest) pos) (cT X.K tB')) : PW X (.BoolOp .Or (a :: b :: rest) pos) (cT X.K (qOrP tA tB')) := PW.wk (pw_or ha hb) fun σ H KQ h => by
  obtain ⟨ρ, G, Q, e, a, q, f⟩ := h
  refine ⟨ρ, G, _, e, a, q, fun b H1 G1 k1 a1 q1 => ?_⟩
  obtain ⟨d, hd, q1⟩ := q1
  cases b with
  | true => exact f true H1 G1 k1 a1 q1
  | false => exact ⟨ρ, G1, _, e.mono k1, a1, hd, fun b H2 G2 k2 a2 ⟨e1, e2⟩ => by subst e1 e2; exact f b H2 _ (k1.trans k2) a2 q1⟩
theorem w_andP (ha : PT X a (cT X.K tA)) (hb : PW X (.BoolOp .And (b :: rest) pos) (cT X.K tB')) : PW X (.BoolOp .And (a :: b :: rest) pos) (cT X.K (qAndP tA tB')) := PW.wk (pw_and ha hb) fun σ H KQ h => by
  obtain ⟨ρ, G, Q, e, a, q, f⟩ := h
  refine ⟨ρ, G, _, e, a, q, fun b H1 G1 k1 a1 q1 => ?_⟩
  obtain ⟨d, hd, q1⟩ := q1
  cases b with
  | false => exact f false H1 G1 k1 a1 q1
  | true => exact ⟨ρ, G1, _, e.mono k1, a1, hd, fun b H2 G2 k2 a2 ⟨e1, e2⟩ => by subst e1 e2; exact f b H2 _ (k1.trans k2) a2 q1⟩
end
end Lw

set_option Elab.async false
set_option linter.all false
set_option maxRecDepth 100000
set_option maxHeartbeats 4000000
namespace Lw
open PySem PySem.Spec PyProof.Rows L2
/-! ### tuple * n, n from nought on -/
theorem tuple_mulS (l : Addr) (items : Array Value) (n : Nat) (dd : Option Addr) (sl : Array (Option Value)) (x : Int) (u : Tok) (c0 : (decide (x < -(2 ^ 63)) || decide (x ≥ 2 ^ 63)) = false) (c1 : (items.isEmpty || x == 1) = true) :
    Meets (Builtin.«tuple.__mul__» ⟨[.ref l, .int x u], []⟩) (fun _ R s => s.heap.get? l = some { cls := .type "tuple", dict := dd, data := .seq items n, slots := sl } ∧
      R (.ok (.ret (Value.ref l))) s) :=
  .of_wp fun prog w A R s h => by
    obtain ⟨hp, g, d, tk, os⟩ := s
    obtain ⟨hl, h⟩ := h
    have f1 := AutoSeq1.idx_int
    wp_walk using wpAny_loadPart' hl
    repeat (first
      | (refine wpAny_ite_false (decide_eq_false (by rw [c0]; exact Bool.false_ne_true)) ?_; wp_walk using wpAny_loadPart' hl)
      | (refine wpAny_ite_true (decide_eq_true (by rw [c1])) ?_; wp_walk using wpAny_loadPart' hl))
    exact ⟨_, rfl, h⟩

theorem tuple_mul0 (l : Addr) (items : Array Value) (n : Nat) (dd : Option Addr) (sl : Array (Option Value)) (x : Int) (u : Tok) (c0 : (decide (x < -(2 ^ 63)) || decide (x ≥ 2 ^ 63)) = false) (c1 : (items.isEmpty || x == 1) = false) (c2 : (decide (x ≤ 0) || items.isEmpty) = true) :
    Meets (Builtin.«tuple.__mul__» ⟨[.ref l, .int x u], []⟩) (fun _ R s => s.heap.get? l = some { cls := .type "tuple", dict := dd, data := .seq items n, slots := sl } ∧
      R (.ok (.ret (Value.ref s.heap.objs.size))) { s with heap := s.heap.push { cls := Value.type "tuple", data := Data.seq #[] }, toks := s.toks }) :=
  .of_wp fun prog w A R s h => by
    obtain ⟨hp, g, d, tk, os⟩ := s
    obtain ⟨hl, h⟩ := h
    have f1 := AutoSeq1.idx_int
    wp_walk using wpAny_loadPart' hl
    repeat (first
      | (refine wpAny_ite_false (decide_eq_false (by rw [c0]; exact Bool.false_ne_true)) ?_; wp_walk using wpAny_loadPart' hl)
      | (refine wpAny_ite_false (decide_eq_false (by rw [c1]; exact Bool.false_ne_true)) ?_; wp_walk using wpAny_loadPart' hl)
      | (refine wpAny_ite_true (decide_eq_true (by rw [c2])) ?_; wp_walk using wpAny_loadPart' hl))
    exact ⟨_, rfl, h⟩
section
variable {X : Cx}
/-- t * 1, () * n: the tuple itself -/
def rRepS (K : PySem.W.Frag) : R2 := fun x y H Q => ∃ l k xs, x = .ref l ∧ y = .int k ∧ SqT K H l xs ∧ (xs = [] ∨ k = 1) ∧ 0 ≤ k ∧ k ≤ 1000 ∧ Q (.ref l) H
theorem op_repS : OpR X (binaryOp .Mult) (rRepS X.K) := by
  intro pins s σ H x y v u Q I rx ry h
  obtain ⟨l, k, xs, rfl, rfl, hT, hne, h1, h2, q⟩ := h
  cases rx
  obtain ⟨t, rfl⟩ := ry
  obtain ⟨its, r, ⟨⟨cls, dd, data, sl⟩, ho, hc, n, hd⟩, hs⟩ := I.tuple hT
  simp only at hc hd
  subst hc hd
  have hle : its.length = xs.length := r.length.symm
  have c0 : (decide (k < -(2 ^ 63)) || decide (k ≥ 2 ^ 63)) = false := by
    rw [decide_eq_false (by omega), decide_eq_false (by omega)] <;> rfl
  have c1 : (its.toArray.isEmpty || k == 1) = true := by
    rcases hne with z | z
    · subst z
      cases its with
      | nil => rfl
      | cons a b => cases hle
    · subst z; simp
  refine wpAny_binaryOp_repeat_ref (T := "tuple") (U := "int") (by decide) ⟨_, ho, rfl⟩ (fun s' => typeIs_int s' k t) noFill_tuple_mul F.fills_int_mul F.slot_int_rmul repeat_tuple F.slot_int_index.lookup
    (call_meets F.slot_int_rmul (typeIs_int s k t) F.entry_int_rmul (F.args_int_rmul_2 _ _) (int_rmul_tuple k t l its.toArray n dd sl)
      ⟨ho, rfl, ⟨_, ho, rfl⟩, call_meets F.slot_tuple_mul ⟨_, ho, rfl⟩ F.entry_tuple_mul (F.args_tuple_mul_2 _ _) (tuple_mulS l its.toArray n dd sl k t c0 c1) ⟨ho, ?_⟩⟩)
  exact ⟨.ref l, _, I, rfl, q⟩
/-- t * 0 -/
def rRep0 (K : PySem.W.Frag) : R2 := fun x y H Q => ∃ l xs, x = .ref l ∧ y = .int 0 ∧ SqT K H l xs ∧ xs ≠ [] ∧ ∀ p, H p = none → Q (.ref p) (upd H p (.tup []))
theorem op_rep0 : OpR X (binaryOp .Mult) (rRep0 X.K) := by
  intro pins s σ H x y v u Q I rx ry h
  obtain ⟨l, xs, rfl, rfl, hT, hne, q⟩ := h
  cases rx
  obtain ⟨t, rfl⟩ := ry
  obtain ⟨its, r, ⟨⟨cls, dd, data, sl⟩, ho, hc, n, hd⟩, hs⟩ := I.tuple hT
  simp only at hc hd
  subst hc hd
  have hle : its.length = xs.length := r.length.symm
  have hn : its ≠ [] := fun e => hne (by
    rw [e] at hle
    exact List.eq_nil_of_length_eq_zero hle.symm)
  have hi : its.toArray.isEmpty = false := by
    cases its with
    | nil => exact absurd rfl hn
    | cons a b => rfl
  have c1 : (its.toArray.isEmpty || (0 : Int) == 1) = false := by rw [hi]; rfl
  have c2 : (decide ((0 : Int) ≤ 0) || its.toArray.isEmpty) = true := by rw [hi]; rfl
  refine wpAny_binaryOp_repeat_ref (T := "tuple") (U := "int") (by decide) ⟨_, ho, rfl⟩ (fun s' => typeIs_int s' 0 t) noFill_tuple_mul F.fills_int_mul F.slot_int_rmul repeat_tuple F.slot_int_index.lookup
    (call_meets F.slot_int_rmul (typeIs_int s 0 t) F.entry_int_rmul (F.args_int_rmul_2 _ _) (int_rmul_tuple 0 t l its.toArray n dd sl)
      ⟨ho, rfl, ⟨_, ho, rfl⟩, call_meets F.slot_tuple_mul ⟨_, ho, rfl⟩ F.entry_tuple_mul (F.args_tuple_mul_2 _ _) (tuple_mul0 l its.toArray n dd sl 0 t (by decide) c1 c2) ⟨ho, ?_⟩⟩)
  refine ⟨.ref s.heap.objs.size, _, I.laid (t' := s.toks) (o := .tup []) (fun b ob q => Heap.get?_push_of_some _ q) (Nat.le_refl _) ?_, rfl, q _ (I.hok.fresh (Nat.le_refl _))⟩
  exact ⟨by rw [sizeLine_eq]; exact Nat.zero_le _, [], .nil, IsTup.new _ _⟩
/-- * of ints; tuple * n, n from 0 to 1000 -/
def fMul2 : Q2 := fun x y G Q => match x, y with
  | .int i, .int j => MulOk i j ∧ Q (.int (i * j)) G
  | .tup ts, .int k => 0 ≤ k ∧ k ≤ 1000 ∧ ts.length ≤ 1000 ∧ Q (.tup (List.replicate k.toNat ts).flatten) G
  | _, _ => False
theorem o_mul2 : OpR X (binaryOp .Mult) (c2 X.K fMul2) := by
  intro pins s σ H v w u u' KQ I rv rw' h2
  obtain ⟨x, y, G, Q, hx, hy, ha, hf, hk⟩ := h2
  unfold fMul2 at hf
  split at hf
  · exact op_mulW pins s σ H v w u u' KQ I rv rw' ⟨_, _, hx, hy, hf.1.w, hk _ H (.int _) G (Tups.refl H) ha rfl hf.2⟩
  · rename_i ts k
    obtain ⟨h2, h3, h4, hf⟩ := hf
    by_cases hs : ts = [] ∨ k = 1
    · have hf' : Q (.tup ts) G := by
        have e : (List.replicate k.toNat ts).flatten = ts := by
          rcases hs with z | z
          · subst z; simp
          · subst z; simp
        rw [e] at hf; exact hf
      obtain ⟨p, vs, rfl, hp, r⟩ := hx
      refine op_repS pins s σ H _ _ u u' KQ I rv rw' ⟨p, k, vs, rfl, hy, SqT.of hp, ?_, h2, h3, hk _ H (.tup ts) G (Tups.refl H) ha ⟨p, vs, rfl, hp, r⟩ hf'⟩
      rcases hs with z | z
      · subst z; exact .inl (List.eq_nil_of_length_eq_zero r.length)
      · exact .inr z
    · by_cases hz : k = 0
      · subst hz
        obtain ⟨p, vs, rfl, hp, r⟩ := hx
        refine op_rep0 pins s σ H _ _ u u' KQ I rv rw' ⟨p, vs, rfl, hy, SqT.of hp, fun e => hs (.inl (by subst e; exact List.eq_nil_of_length_eq_zero r.length.symm)), fun l hl => ?_⟩
        have kk : Tups H (upd H l (.tup [])) := Tups.new hl
        exact hk _ _ (.tup []) G kk (ha.grow hl) ⟨l, [], rfl, upd_same, rfl⟩ hf
      · refine o_mul pins s σ H v w u u' KQ I rv rw' ⟨.tup ts, .int k, G, Q, hx, hy, ha, ⟨fun e => hs (.inl e), by omega, h3, h4, hf⟩, hk⟩
  · exact hf.elim
/-! ### a test that is one or the other -/
def tIfT (t ta tb : TT) : TT := fun σ H Q => t σ H fun c H1 => if c = true then ta σ H1 Q else tb σ H1 Q
theorem pt_ifExp {c a b : Expr} {tA ta tb : TT} {pos : Pos} (hc : PT X c tA) (ha : PT X a ta) (hb : PT X b tb) : PT X (.IfExp c a b pos) (tIfT tA ta tb) := by
  refine ⟨fun pins s σ H Q I h => ?_⟩
  refine isTrue_IfExp (thn (hc.run pins s σ H _ I h) fun d s1 ⟨H1, I1, q1⟩ => ?_)
  cases d with
  | true => exact ha.run pins s1 σ H1 Q I1 q1
  | false => exact hb.run pins s1 σ H1 Q I1 q1
def qIfT (t ta tb : QT) : QT := fun ρ G Q => t ρ G fun c G1 => (c = true → ta ρ G1 Q) ∧ (c = false → tb ρ G1 Q)
theorem t_if {c a b : Expr} {tA ta tb : QT} {pos : Pos} (hc : PT X c (cT X.K tA)) (ha : PT X a (cT X.K ta)) (hb : PT X b (cT X.K tb)) : PT X (.IfExp c a b pos) (cT X.K (qIfT tA ta tb)) := PT.wk (pt_ifExp hc ha hb) fun σ H KQ h => by
  obtain ⟨ρ, G, Q, e, a, q, f⟩ := h
  refine ⟨ρ, G, _, e, a, q, fun b H1 G1 k1 a1 q1 => ?_⟩
  cases b with
  | true => exact ⟨ρ, G1, Q, e.mono k1, a1, q1.1 rfl, fun b H' G' k2 => f b H' G' (k1.trans k2)⟩
  | false => exact ⟨ρ, G1, Q, e.mono k1, a1, q1.2 rfl, fun b H' G' k2 => f b H' G' (k1.trans k2)⟩
/-! ### name += int -/
def qAugI (i : Nat) (qe : QE) : QS := fun D ρ G => match nth ρ i with
  | some (some (.int a)) => qe ρ G fun y G1 => match y with
    | .int b => putK ρ i (some (.int (a + b))) fun ρ1 => D.nx ρ1 G1
    | _ => False
  | _ => False
theorem s_augI {i : Nat} {x : Str} {e : Expr} {qe : QE} {pos' pos : Pos} (hN : X.N.Nodup) (hi : X.N[i]? = some x) (hx : Loc X.env.scope x) (he : PE X e (cE X.K qe)) (hf : X.fn x = true ∨ X.env.scope.names.lookup x = some .local := by first | exact .inl rfl | exact .inr rfl | assumption) :
    PS X (.AugAssign (.Name x pos') .Add e pos) (cS X.K (qAugI i qe)) := PS.wk (ps_aug hN hi hx he ip_add hf) fun D σ H h => by
  obtain ⟨ρ, G, D', e, a, q, f⟩ := h
  unfold qAugI at q
  split at q
  · rename_i n hn
    obtain ⟨v, hv, rv⟩ := e.get hn
    cases rv
    refine ⟨.int n, hv, ρ, G, _, e, a, q, fun v H1 t G1 k1 a1 r1 q1 => ?_⟩
    split at q1
    · rename_i m
      cases r1
      exact ⟨n, m, rfl, rfl, f.nx _ H1 _ G1 k1 ((e.mono k1).put (show Rp X.K H1 (.int (n + m)) (.int (n + m)) from rfl) i) a1 (putK_put q1)⟩
    · exact q1.elim
  · exact q.elim
end
end Lw

set_option Elab.async false
set_option linter.all false
set_option maxRecDepth 100000
set_option maxHeartbeats 4000000
namespace Lw
open PySem PySem.Spec PyProof.Rows L2
theorem un65 {k : Nat} {A : Around} (r : Room k A) : A.units + 65 < cLine := by have := r.un; omega
section
variable {X : Cx}
/-! ### x in a list of data -/
theorem any_eqv (x : T) (hx : okT x = true) : ∀ ts : List T, okTs ts = true → ((pdTs ts).any fun z => PyData.eqv z (pdT x)) = ts.any fun t => teq t x
  | [], _ => rfl
  | t :: ts, h => by
    have h' : okT t = true ∧ okTs ts = true := by
      have : (okT t && okTs ts) = true := h
      exact (Bool.and_eq_true _ _).mp this
    show (PyData.eqv (pdT t) (pdT x) || (pdTs ts).any fun z => PyData.eqv z (pdT x)) = (teq t x || ts.any fun t => teq t x)
    rw [any_eqv x hx ts h'.2, pd_eqv t x h'.1 hx]
def fIn (neg : Bool) : Q2 := fun x y G Q => match y with
  | .ref a => ∃ ts, G a = some (.lst ts) ∧ eqOks ts = true ∧ eqOk x = true ∧ Q (.bl (neg != ts.any fun t => teq t x)) G
  | _ => False
theorem o_in (hu : X.A.units + 65 < cLine) : OpR X (compareOp .In) (c2 X.K (fIn false)) := by
  intro pins s σ H v w u u' KQ I rv rw' h2
  obtain ⟨x, y, G, Q, hx, hy, ha, hf, hk⟩ := h2
  unfold fIn at hf
  split at hf
  · obtain ⟨ts, hg, o1, o2, q⟩ := hf
    cases hy
    refine op_inD hu pins s σ H _ _ u u' KQ I rv rw' ⟨_, _, pd_dp _ _ (eqOk_ok o2) hx, ha.dlist hg (eqOks_ok o1), shp (eqOk_ok o2) (eqOk_dp o2), shpL (eqOks_ok o1) (eqOks_dp o1), ?_⟩
    rw [any_eqv x (eqOk_ok o2) ts (eqOks_ok o1)]
    exact hk _ H (.bl _) G (Tups.refl H) ha rfl (by rw [Bool.false_bne] at q; exact q)
  · exact hf.elim
theorem o_notin (hu : X.A.units + 65 < cLine) : OpR X (compareOp .NotIn) (c2 X.K (fIn true)) := by
  intro pins s σ H v w u u' KQ I rv rw' h2
  obtain ⟨x, y, G, Q, hx, hy, ha, hf, hk⟩ := h2
  unfold fIn at hf
  split at hf
  · obtain ⟨ts, hg, o1, o2, q⟩ := hf
    cases hy
    refine op_notInD hu pins s σ H _ _ u u' KQ I rv rw' ⟨_, _, pd_dp _ _ (eqOk_ok o2) hx, ha.dlist hg (eqOks_ok o1), shp (eqOk_ok o2) (eqOk_dp o2), shpL (eqOks_ok o1) (eqOks_dp o1), ?_⟩
    rw [any_eqv x (eqOk_ok o2) ts (eqOks_ok o1)]
    exact hk _ H (.bl _) G (Tups.refl H) ha rfl (by rw [Bool.true_bne] at q; exact q)
  · exact hf.elim
/-! ### max of a list of ints -/
def intsOf : List T → Option (List Int)
  | [] => some []
  | .int i :: ts => (intsOf ts).map (i :: ·)
  | _ => none
def fMaxL : QC := fun ts G Q => match ts with
  | [.ref a] => ∃ ns : List Int, G a = some (.lst (ns.map T.int)) ∧ ns ≠ [] ∧ ∀ m, m ∈ ns → (∀ y, y ∈ ns → y ≤ m) → Q (.int m) G
  | _ => False
theorem b_max1 (hc : X.calm = true) : CallR X (.builtin "max") (cC X.K fMaxL) := by
  intro pins s σ H vs us KQ I r h
  obtain ⟨ts, G, Q, hr, ha, hf, hk⟩ := h
  unfold fMaxL at hf
  split at hf
  · obtain ⟨ns, hg, hne, q⟩ := hf
    obtain ⟨v, rfl, h1⟩ := rpl1 hr
    cases h1
    obtain ⟨vs, hp, r'⟩ := ha _ _ hg
    have e := r'.ints
    subst e
    exact cr_max hc pins s σ H _ us KQ I r ⟨_, ns, rfl, SqL.of hp, List.length_pos_iff.mpr hne, fun m h1 h2 => hk _ H (.int m) G (Tups.refl H) ha rfl (q m h1 h2)⟩
  · exact hf.elim
/-! ### a list's methods -/
abbrev QM := T → List T → Gp → TK → Prop
def cM (K : PySem.W.Frag) (f : QM) : V → List V → Hp → VK → Prop := fun v vs H KQ => ∃ x ts G Q, Rp K H x v ∧ RpL K H ts vs ∧ Abs K H G ∧ f x ts G Q ∧ Fol K H Q KQ
def qBM (f : QM) (qo : QE) (qa : QA) : QE := fun ρ G Q => qo ρ G fun x G1 => match x with
  | .ref a => (∃ xs, G1 a = some (.lst xs)) ∧ qa ρ G1 fun ts G2 => f (.ref a) ts G2 Q
  | _ => False
theorem e_bm {o e : Expr} {es : List Expr} {qo : QE} {qa : QA} {name : Str} {apos cpos : Pos} {id : String} {f : QM} (pa : PlainAttrs "list") (slot : Slot "list" name id) (hty : typeOf (.builtin id) = pure (.type "method_descriptor")) (hm : MtR X id (cM X.K f)) (ho : PE X o (cE X.K qo)) (ha : PA X (e :: es) (cA X.K qa))
    (hbase : attributeBase o name X.env (eval o X.env) = eval o X.env := by rfl)
    (hfew : ((backTo cpos (starEach (e :: es) X.env)).all (fun x => !x.1) && (backToKw cpos (keywordEach [] X.env)).all (fun x => x.1.isSome)
      && decide ((e :: es).length + ([] : List Keyword).length + (if ([] : List Keyword).isEmpty then 0 else 1) < 30)) = true := by rfl)
    (hline : (apos.endLine == cpos.line) = true := by rfl) (hs : starEach (e :: es) X.env = (false, eval e X.env) :: starEach es X.env := by rfl) (hplain : (backTo cpos (starEach es X.env)).any (·.1) = false := by rfl) :
    PE X (.Call (.Attribute o name apos) (e :: es) [] cpos) (cE X.K (qBM f qo qa)) := PE.wk (pe_bm pa slot hty hm ho ha hbase hfew hline hs hplain) fun σ H KQ h => by
  obtain ⟨ρ, G, Q, e, a, q, g⟩ := h
  refine ⟨ρ, G, _, e, a, q, fun v H1 t G1 k1 a1 r1 q1 => ?_⟩
  split at q1
  · rename_i p
    obtain ⟨⟨xs, hg⟩, q1⟩ := q1
    cases r1
    obtain ⟨vs, hp, r⟩ := a1 _ _ hg
    refine ⟨.inl ⟨rfl, _, SqL.of hp⟩, ρ, G1, _, e.mono k1, a1, q1, fun vs H2 ts G2 k2 a2 r2 q2 => ?_⟩
    exact ⟨.ref p, ts, G2, Q, rfl, r2, a2, q2, g.from (k1.trans k2)⟩
  · exact q1.elim
def fAppend : QM := fun x ts G Q => match x, ts with
  | .ref a, [y] => ∃ xs, G a = some (.lst xs) ∧ xs.length < 100000 ∧ Q .non (gput G a (.lst (xs ++ [y])))
  | _, _ => False
theorem m_append : MtR X "list.append" (cM X.K fAppend) := by
  intro pins s σ H x xs v us KQ I rv rs h
  obtain ⟨t, ts, G, Q, hx, hr, ha, hf, hk⟩ := h
  unfold fAppend at hf
  split at hf
  · obtain ⟨ys, hg, hz, q⟩ := hf
    cases hx
    obtain ⟨w, rfl, hw⟩ := rpl1 hr
    obtain ⟨vs, hp, r⟩ := ha _ _ hg
    have wr : Wr H _ := Wr.of hp (fun _ z => by cases z) (fun _ _ z => by cases z)
    have k := Tups.set (o := .lst (vs ++ [w])) wr
    refine mt_append pins s σ H _ _ v us KQ I rv rs ⟨_, vs, w, rfl, rfl, hp, by rw [r.length]; exact Nat.lt_of_lt_of_le hz (sz100 (Nat.le_refl _)), ?_⟩
    exact hk _ _ .non _ k (ha.put (o := .lst (ys ++ [_])) wr ⟨_, upd_same, (r.append (RpL.one hw)).mono k⟩) rfl q
  · exact hf.elim
end
end Lw

set_option Elab.async false
set_option linter.all false
set_option maxRecDepth 100000
set_option maxHeartbeats 4000000
namespace Lw
open PySem PySem.Spec PyProof.Rows L2
/-! ### the order of data: ints, texts, tuples of such, by a code -/
def cdS : List Nat → List Int
  | [] => [0]
  | c :: cs => 1 :: (c : Int) :: cdS cs
mutual
def cdP : PyData → List Int
  | .int i => [i]
  | .str x => cdS x.cps.toList
  | .tuple ds => cdPs ds
  | _ => []
def cdPs : List PyData → List Int
  | [] => [0]
  | d :: ds => 1 :: (cdP d ++ cdPs ds)
end
mutual
def cmpb : PyData → PyData → Bool
  | .int _, .int _ => true
  | .str _, .str _ => true
  | .tuple xs, .tuple ys => cmpbs xs ys
  | _, _ => false
def cmpbs : List PyData → List PyData → Bool
  | x :: xs, y :: ys => cmpb x y && cmpbs xs ys
  | _, _ => true
end
abbrev plt (x y : PyData) : Bool := HT.lexLt (cdP x) (cdP y)
theorem lex_same : ∀ (l r s : List Int), HT.lexLt (l ++ r) (l ++ s) = HT.lexLt r s
  | [], _, _ => rfl
  | a :: l, r, s => by rw [List.cons_append, List.cons_append, HT.lexLt_cons, if_pos rfl, lex_same l r s]
theorem cdS_ne : ∀ (x y : List Nat) (r s : List Int), x ≠ y → HT.lexLt (cdS x ++ r) (cdS y ++ s) = decide (x < y)
  | [], [], _, _, h => absurd rfl h
  | [], b :: y, r, s, _ => by
    show HT.lexLt (0 :: r) (1 :: ((b : Int) :: cdS y ++ s)) = _
    rw [HT.lexLt_cons, if_neg (by decide), decide_eq_true (List.nil_lt_cons b y)]; rfl
  | a :: x, [], r, s, _ => by
    show HT.lexLt (1 :: ((a : Int) :: cdS x ++ r)) (0 :: s) = _
    rw [HT.lexLt_cons, if_neg (by decide), decide_eq_false (List.not_lt_nil _)]; rfl
  | a :: x, b :: y, r, s, h => by
    show HT.lexLt (1 :: ((a : Int) :: (cdS x ++ r))) (1 :: ((b : Int) :: (cdS y ++ s))) = _
    rw [HT.lexLt_cons, if_pos rfl, HT.lexLt_cons]
    by_cases e : a = b
    · subst e
      rw [if_pos rfl, cdS_ne x y r s (fun z => h (by rw [z]))]
      have q : (a :: x < a :: y) ↔ x < y := by rw [List.cons_lt_cons_iff]; simp
      exact decide_eq_decide.mpr q.symm
    · rw [if_neg (by omega)]
      have q : (a :: x < b :: y) ↔ a < b := by rw [List.cons_lt_cons_iff]; simp [e]
      exact decide_eq_decide.mpr (by rw [q]; omega)
mutual
theorem cd_eq : ∀ x y : PyData, cmpb x y = true → PyData.eqv x y = true → x = y
  | .int i, .int j, _, h => by simp only [PyData.eqv, beq_iff_eq] at h; rw [h]
  | .str i, .str j, _, h => congrArg PyData.str (eq_of_beq (show (i == j) = true from by simpa only [PyData.eqv] using h))
  | .tuple xs, .tuple ys, h, h2 => by
    have h2' : PyData.eqvAll xs ys = true := by simpa only [PyData.eqv] using h2
    rw [cds_eq xs ys h h2']
theorem cds_eq : ∀ xs ys : List PyData, cmpbs xs ys = true → PyData.eqvAll xs ys = true → xs = ys
  | [], [], _, _ => rfl
  | [], _ :: _, _, h => by simp [PyData.eqvAll] at h
  | _ :: _, [], _, h => by simp [PyData.eqvAll] at h
  | x :: xs, y :: ys, h, h2 => by
    have h' : cmpb x y = true ∧ cmpbs xs ys = true := by
      have : (cmpb x y && cmpbs xs ys) = true := h
      exact (Bool.and_eq_true _ _).mp this
    have h2' : PyData.eqv x y = true ∧ PyData.eqvAll xs ys = true := by simpa [PyData.eqvAll] using h2
    rw [cd_eq x y h'.1 h2'.1, cds_eq xs ys h'.2 h2'.2]
end
mutual
theorem eqv_self : ∀ x y : PyData, cmpb x y = true → x = y → PyData.eqv x y = true
  | .int i, .int j, _, h => by cases h; simp [PyData.eqv]
  | .str i, .str j, _, h => by cases h; simp [PyData.eqv]
  | .tuple xs, .tuple ys, h, h2 => by
    cases h2
    simp only [PyData.eqv]
    exact eqvs_self xs xs h rfl
theorem eqvs_self : ∀ xs ys : List PyData, cmpbs xs ys = true → xs = ys → PyData.eqvAll xs ys = true
  | [], [], _, _ => by simp [PyData.eqvAll]
  | [], _ :: _, _, h => by cases h
  | _ :: _, [], _, h => by cases h
  | x :: xs, y :: ys, h, h2 => by
    have h' : cmpb x y = true ∧ cmpbs xs ys = true := by
      have : (cmpb x y && cmpbs xs ys) = true := h
      exact (Bool.and_eq_true _ _).mp this
    cases h2
    simp [PyData.eqvAll, eqv_self x x h'.1 rfl, eqvs_self xs xs h'.2 rfl]
end
mutual
theorem cd_ne : ∀ (x y : PyData) (r s : List Int), cmpb x y = true → PyData.eqv x y = false → HT.lexLt (cdP x ++ r) (cdP y ++ s) = plt x y
  | .int i, .int j, r, s, _, h => by
    have hn : i ≠ j := fun z => by subst z; simp [PyData.eqv] at h
    show HT.lexLt (i :: r) (j :: s) = HT.lexLt [i] [j]
    rw [HT.lexLt_cons, HT.lexLt_cons, if_neg hn, if_neg hn]
  | .str i, .str j, r, s, _, h => by
    have hn : i.cps.toList ≠ j.cps.toList := fun z => by
      have hc : i.cps = j.cps := Array.toList_inj.mp z
      have : i = j := by cases i; cases j; simpa using hc
      subst this; simp [PyData.eqv] at h
    show HT.lexLt (cdS _ ++ r) (cdS _ ++ s) = HT.lexLt (cdS _) (cdS _)
    rw [cdS_ne _ _ _ _ hn, ← List.append_nil (cdS i.cps.toList), ← List.append_nil (cdS j.cps.toList), cdS_ne _ _ _ _ hn]
  | .tuple xs, .tuple ys, r, s, h, h2 => cds_ne xs ys r s h (by simpa only [PyData.eqv] using h2)
theorem cds_ne : ∀ (xs ys : List PyData) (r s : List Int), cmpbs xs ys = true → PyData.eqvAll xs ys = false → HT.lexLt (cdPs xs ++ r) (cdPs ys ++ s) = HT.lexLt (cdPs xs) (cdPs ys)
  | [], [], _, _, _, h => by simp [PyData.eqvAll] at h
  | [], y :: ys, r, s, _, _ => by
    show HT.lexLt (0 :: r) (1 :: (cdP y ++ cdPs ys ++ s)) = HT.lexLt [0] (1 :: (cdP y ++ cdPs ys))
    rw [HT.lexLt_cons, HT.lexLt_cons]; rfl
  | x :: xs, [], r, s, _, _ => by
    show HT.lexLt (1 :: (cdP x ++ cdPs xs ++ r)) (0 :: s) = HT.lexLt (1 :: (cdP x ++ cdPs xs)) [0]
    rw [HT.lexLt_cons, HT.lexLt_cons]; rfl
  | x :: xs, y :: ys, r, s, h, h2 => by
    have h' : cmpb x y = true ∧ cmpbs xs ys = true := by
      have : (cmpb x y && cmpbs xs ys) = true := h
      exact (Bool.and_eq_true _ _).mp this
    show HT.lexLt (1 :: (cdP x ++ cdPs xs ++ r)) (1 :: (cdP y ++ cdPs ys ++ s)) = HT.lexLt (1 :: (cdP x ++ cdPs xs)) (1 :: (cdP y ++ cdPs ys))
    rw [HT.lexLt_cons, HT.lexLt_cons, if_pos rfl, if_pos rfl]
    cases e : PyData.eqv x y with
    | true =>
      have ex := cd_eq x y h'.1 e
      subst ex
      have e2 : PyData.eqvAll xs ys = false := by simpa [PyData.eqvAll, e] using h2
      rw [List.append_assoc, List.append_assoc, lex_same, lex_same, cds_ne xs ys r s h'.2 e2]
    | false =>
      rw [List.append_assoc, List.append_assoc, cd_ne x y _ _ h'.1 e, cd_ne x y _ _ h'.1 e]
end
theorem plt_tup_nil {y : PyData} {ys : List PyData} : HT.lexLt (cdPs []) (cdPs (y :: ys)) = true := by
  show HT.lexLt [0] (1 :: (cdP y ++ cdPs ys)) = true
  rw [HT.lexLt_cons, if_neg (by decide)]; rfl
theorem plt_tup_nil2 {x : PyData} {xs : List PyData} : HT.lexLt (cdPs (x :: xs)) (cdPs []) = false := by
  show HT.lexLt (1 :: (cdP x ++ cdPs xs)) [0] = false
  rw [HT.lexLt_cons, if_neg (by decide)]; rfl
theorem plt_tup_cons {x y : PyData} {xs ys : List PyData} (h : cmpb x y = true) : HT.lexLt (cdPs (x :: xs)) (cdPs (y :: ys)) = if PyData.eqv x y = true then HT.lexLt (cdPs xs) (cdPs ys) else plt x y := by
  show HT.lexLt (1 :: (cdP x ++ cdPs xs)) (1 :: (cdP y ++ cdPs ys)) = _
  rw [HT.lexLt_cons, if_pos rfl]
  cases e : PyData.eqv x y with
  | true =>
    have ex := cd_eq x y h e
    subst ex
    rw [lex_same, if_pos rfl]
  | false => rw [cd_ne x y _ _ h e, if_neg Bool.false_ne_true]
theorem lexAt_shift {e r : Nat → Bool} {z : Bool} : ∀ (k i : Nat), Ob.lexAt e r z (i + 1) k = Ob.lexAt (fun j => e (j + 1)) (fun j => r (j + 1)) z i k
  | 0, _ => rfl
  | k + 1, i => by rw [Ob.lexAt_succ, Ob.lexAt_succ, lexAt_shift k (i + 1)]
abbrev pairLt (xs ys : List PyData) (j : Nat) : Bool := plt (xs.getD j .none) (ys.getD j .none)
theorem lexAt_cd : ∀ (xs ys : List PyData), cmpbs xs ys = true → Ob.lexAt (SeqAt.pairEq xs ys) (pairLt xs ys) (decide (xs.length < ys.length)) 0 (min xs.length ys.length) = HT.lexLt (cdPs xs) (cdPs ys)
  | [], [], _ => by
    show false = HT.lexLt [0] [0]
    rw [HT.lexLt_cons, if_pos rfl]; rfl
  | [], y :: ys, _ => by rw [plt_tup_nil]; simp [Ob.lexAt]
  | x :: xs, [], _ => by rw [plt_tup_nil2]; simp [Ob.lexAt]
  | x :: xs, y :: ys, h => by
    have h' : cmpb x y = true ∧ cmpbs xs ys = true := by
      have : (cmpb x y && cmpbs xs ys) = true := h
      exact (Bool.and_eq_true _ _).mp this
    have em : min (x :: xs).length (y :: ys).length = min xs.length ys.length + 1 := by simp only [List.length_cons]; omega
    rw [em, Ob.lexAt_succ, lexAt_shift, plt_tup_cons h'.1]
    have ez : decide ((x :: xs).length < (y :: ys).length) = decide (xs.length < ys.length) := decide_eq_decide.mpr (by simp only [List.length_cons]; omega)
    rw [ez]
    show (if PyData.eqv x y = true then Ob.lexAt (SeqAt.pairEq xs ys) (pairLt xs ys) _ 0 _ else plt x y) = _
    rw [lexAt_cd xs ys h'.2]
/-! ### < of data in the model -/
section
open PySem.SeqAt
theorem rc_ltI : ∀ (i j : Int) (A : Around) (s : Shared) (a b : Value) (as bs : List Addr), Reads s.heap a (.int i) as → Reads s.heap b (.int j) bs → Ob.RcOp .Lt A s a b (plt (.int i) (.int j))
  | i, j, A, s, _, _, _, _, ra, rb => by
    cases ra; cases rb
    have e : plt (.int i) (.int j) = decide (i < j) := by
      show HT.lexLt [i] [j] = _
      rw [HT.lexLt_cons]
      by_cases h : i = j
      · subst h; simp [HT.lexLt]
      · rw [if_neg h]
    rw [e]
    exact Ob.RcOp.lt_int _ _ _ _
theorem plt_str (i j : Str) : plt (.str i) (.str j) = decide (i.cps.toList < j.cps.toList) := by
  show HT.lexLt (cdS _) (cdS _) = _
  by_cases h : i.cps.toList = j.cps.toList
  · rw [h]
    have := lex_same (cdS j.cps.toList) [] []
    rw [List.append_nil] at this
    rw [this, decide_eq_false (List.lt_irrefl _)]; rfl
  · rw [← List.append_nil (cdS i.cps.toList), ← List.append_nil (cdS j.cps.toList), cdS_ne _ _ _ _ h]
theorem rc_ltS : ∀ (i j : Str) (A : Around) (s : Shared) (a b : Value) (as bs : List Addr), Reads s.heap a (.str i) as → Reads s.heap b (.str j) bs → Ob.RcOp .Lt A s a b (plt (.str i) (.str j))
  | i, j, A, s, _, _, _, _, ra, rb => by
    cases ra; cases rb
    rw [plt_str]
    exact fun _ _ _ _ h => P.lt_str h
/-- the items of two lists, compared -/
def LtAll (xs ys : List PyData) : Prop := ∀ (A : Around) (s : Shared) (vs ws : List Value) (as bs : List Addr), ReadsAll s.heap vs xs as → ReadsAll s.heap ws ys bs → cmpbs xs ys = true → PyData.canLayAll0 xs = true → PyData.canLayAll0 ys = true →
  A.units + min (PyData.depthAll xs) (PyData.depthAll ys) < cLine → ∀ j (h1 : j < vs.length) (h2 : j < ws.length), Ob.RcOp .Lt A s vs[j] ws[j] (pairLt xs ys j)
def LtOne (x y : PyData) : Prop := ∀ (A : Around) (s : Shared) (a b : Value) (as bs : List Addr), Reads s.heap a x as → Reads s.heap b y bs → cmpb x y = true → x.canLay0 = true → y.canLay0 = true →
  A.units + min x.depth y.depth < cLine → Ob.RcOp .Lt A s a b (plt x y)
theorem rc_ltT (xs ys : List PyData) (rec : LtAll xs ys) : LtOne (.tuple xs) (.tuple ys) := fun A s _ _ _ _ ra rb hc ha hb hu => by
  cases ra with
  | tuple h1 h2 h3 h4 =>
    cases rb with
    | tuple k1 k2 k3 k4 =>
      have hu' := room_in hu
      have l1 := ReadsAll.length _ _ _ h4
      have l2 := ReadsAll.length _ _ _ k4
      have q := Ob.RcOp.tuples_lt (A := A) (s := s) (e := pairEq xs ys) (r := pairLt xs ys) ⟨_, h1, h2, _, h3⟩ ⟨_, k1, k2, _, k3⟩ (room_here hu) (fun j j1 j2 => by
        have := eqAt_readsAll xs ys A.in1 s _ _ _ _ h4 k4 ha hb hu' j (by simpa using j1) (by simpa using j2)
        simpa using this) (fun j j1 j2 _ => by
        have := rec A.in1 s _ _ _ _ h4 k4 hc ha hb hu' j (by simpa using j1) (by simpa using j2)
        simpa using this)
      rw [Array.length_toList] at l1 l2
      rw [l1, l2, lexAt_cd xs ys hc] at q
      exact q
theorem ltOne_no {x y : PyData} (h : cmpb x y = false) : LtOne x y := fun _ _ _ _ _ _ _ _ hc => by rw [h] at hc; cases hc
theorem ltAll_cons {x y : PyData} {xs ys : List PyData} (h1 : LtOne x y) (h2 : LtAll xs ys) : LtAll (x :: xs) (y :: ys) := fun A s _ _ _ _ ra rb hc ha hb hu j j1 j2 => by
  have ha' : x.canLay0 = true ∧ PyData.canLayAll0 xs = true := by simpa [PyData.canLayAll0] using ha
  have hb' : y.canLay0 = true ∧ PyData.canLayAll0 ys = true := by simpa [PyData.canLayAll0] using hb
  have hc' : cmpb x y = true ∧ cmpbs xs ys = true := by
    have : (cmpb x y && cmpbs xs ys) = true := hc
    exact (Bool.and_eq_true _ _).mp this
  have hu : A.units + min (max x.depth (PyData.depthAll xs)) (max y.depth (PyData.depthAll ys)) < cLine := hu
  cases ra with
  | cons r rs =>
    cases rb with
    | cons r' rs' =>
      cases j with
      | zero => exact h1 A s _ _ _ _ r r' hc'.1 ha'.1 hb'.1 (room_head hu)
      | succ j => exact h2 A s _ _ _ _ rs rs' hc'.2 ha'.2 hb'.2 (room_tail hu) j (Nat.lt_of_succ_lt_succ j1) (Nat.lt_of_succ_lt_succ j2)
theorem ltAll_nil {ys : List PyData} : LtAll [] ys := fun _ _ _ _ _ _ ra _ _ _ _ _ j j1 _ => by cases ra; exact absurd j1 (Nat.not_lt_zero _)
theorem ltAll_nil2 {xs : List PyData} : LtAll xs [] := fun _ _ _ _ _ _ _ rb _ _ _ _ j _ j2 => by cases rb; exact absurd j2 (Nat.not_lt_zero _)
mutual
theorem rc_lt0 : ∀ (x y : PyData), LtOne x y
  | .int i, y => by
    cases y with
    | int j => exact fun A s a b as bs ra rb _ _ _ _ => rc_ltI i j A s a b as bs ra rb
    | _ => exact ltOne_no rfl
  | .str i, y => by
    cases y with
    | str j => exact fun A s a b as bs ra rb _ _ _ _ => rc_ltS i j A s a b as bs ra rb
    | _ => exact ltOne_no rfl
  | .tuple xs, y => by
    cases y with
    | tuple ys => exact rc_ltT xs ys (rc_lts0 xs ys)
    | _ => exact ltOne_no rfl
  | .none, y => by cases y <;> exact ltOne_no rfl
  | .bool _, y => by cases y <;> exact ltOne_no rfl
  | .list _, y => by cases y <;> exact ltOne_no rfl
  | .dict _, y => by cases y <;> exact ltOne_no rfl
theorem rc_lts0 : ∀ (xs ys : List PyData), LtAll xs ys
  | [], _ => ltAll_nil
  | x :: xs, ys => by
    cases ys with
    | nil => exact ltAll_nil2
    | cons y ys => exact ltAll_cons (rc_lt0 x y) (rc_lts0 xs ys)
end
theorem rc_lt (x y : PyData) (A : Around) (s : Shared) (a b : Value) (as bs : List Addr) (ra : Reads s.heap a x as) (rb : Reads s.heap b y bs) (hc : cmpb x y = true) (ha : x.canLay0 = true) (hb : y.canLay0 = true)
    (hu : A.units + min x.depth y.depth < cLine) : Ob.RcOp .Lt A s a b (plt x y) := rc_lt0 x y A s a b as bs ra rb hc ha hb hu
theorem rc_lts (xs ys : List PyData) (A : Around) (s : Shared) (vs ws : List Value) (as bs : List Addr) (ra : ReadsAll s.heap vs xs as) (rb : ReadsAll s.heap ws ys bs) (hc : cmpbs xs ys = true) (ha : PyData.canLayAll0 xs = true) (hb : PyData.canLayAll0 ys = true)
    (hu : A.units + min (PyData.depthAll xs) (PyData.depthAll ys) < cLine) (j : Nat) (h1 : j < vs.length) (h2 : j < ws.length) : Ob.RcOp .Lt A s vs[j] ws[j] (pairLt xs ys j) := rc_lts0 xs ys A s vs ws as bs ra rb hc ha hb hu j h1 h2
end
end Lw

set_option Elab.async false
set_option linter.all false
set_option maxRecDepth 100000
set_option maxHeartbeats 4000000
namespace Lw
open PySem PySem.Spec PyProof.Rows L2 PySem.Calls
open PySem.W (Looks)
section
variable {prog : Program} {w : World} {A : Around} {E : Value → Shared → Prop} {s : Shared}
/-- m ends in one way, changing nothing, with a value that is P -/
def Dtm (prog : Program) (w : World) (A : Around) (s : Shared) {α : Type} (m : Sem α) (P : α → Prop) : Prop := ∃ r, P r ∧ ∀ (Q : α → Shared → Prop) (E : Value → Shared → Prop), Q r s → wpAny (model prog w) A m Q E s
theorem Dtm.bind {α β : Type} {m : Sem α} {f : α → Sem β} {P : α → Prop} {P' : β → Prop} (h : Dtm prog w A s m P) (g : ∀ r, P r → Dtm prog w A s (f r) P') : Dtm prog w A s (m >>= f) P' := by
  obtain ⟨r, hr, k⟩ := h
  obtain ⟨r', hr', k'⟩ := g r hr
  exact ⟨r', hr', fun Q E q => wpAny_bind (k _ _ (k' Q E q))⟩
theorem Dtm.pure {α : Type} {r : α} {P : α → Prop} (h : P r) : Dtm prog w A s (Pure.pure r) P := ⟨r, h, fun Q E q => wpAny_pure q⟩
inductive All2 {α β : Type} (R : α → β → Prop) : List α → List β → Prop
  | nil : All2 R [] []
  | cons {a b l m} : R a b → All2 R l m → All2 R (a :: l) (b :: m)
theorem All2.memL {α β : Type} {R : α → β → Prop} {l : List α} {xs : List β} (h : All2 R l xs) : ∀ v ∈ l, ∃ x ∈ xs, R v x := by
  induction h with
  | nil => intro x m; cases m
  | cons r _ ih =>
    intro x m
    rcases List.mem_cons.mp m with e | m
    · subst e; exact ⟨_, List.mem_cons_self, r⟩
    · obtain ⟨v, hv, q⟩ := ih x m
      exact ⟨v, List.mem_cons_of_mem _ hv, q⟩
theorem All2.mem {α β : Type} {R : α → β → Prop} {l : List α} {xs : List β} (h : All2 R l xs) : ∀ x ∈ xs, ∃ v ∈ l, R v x := by
  induction h with
  | nil => intro x m; cases m
  | cons r _ ih =>
    intro x m
    rcases List.mem_cons.mp m with e | m
    · subst e; exact ⟨_, List.mem_cons_self, r⟩
    · obtain ⟨v, hv, q⟩ := ih x m
      exact ⟨v, List.mem_cons_of_mem _ hv, q⟩
theorem All2.map {α β : Type} {R S : α → β → Prop} (f : ∀ a b, R a b → S a b) {l : List α} {xs : List β} (h : All2 R l xs) : All2 S l xs := by
  induction h with
  | nil => exact .nil
  | cons r _ ih => exact .cons (f _ _ r) ih
theorem Dtm.mapM {α β : Type} {f : α → Sem β} {R : α → β → Prop} : ∀ {l : List α}, (∀ v ∈ l, Dtm prog w A s (f v) (R v)) → Dtm prog w A s (l.mapM f) (All2 R l)
  | [], _ => by rw [List.mapM_nil]; exact Dtm.pure .nil
  | x :: l, h => by
    rw [List.mapM_cons]
    exact Dtm.bind (h x List.mem_cons_self) fun r hr => Dtm.bind (Dtm.mapM fun v hv => h v (List.mem_cons_of_mem _ hv)) fun rs hrs => Dtm.pure (.cons hr hrs)
/-- plain data by the heap: numbers, texts, tuples of such -/
structure PlD (h : Heap) (v : Value) (d : PyData) : Prop where
  rd : ∃ as, Reads h v d as
  cl : d.canLay0 = true
  cm : cmpb d d = true
  dp : d.depth ≤ 64
theorem canLayAll_mem : ∀ {ds : List PyData} {d : PyData}, PyData.canLayAll0 ds = true → d ∈ ds → d.canLay0 = true
  | d0 :: ds, d, h, m => by
    have h' : d0.canLay0 = true ∧ PyData.canLayAll0 ds = true := by simpa [PyData.canLayAll0] using h
    rcases List.mem_cons.mp m with e | m
    · rw [e]; exact h'.1
    · exact canLayAll_mem h'.2 m
theorem ReadsAll.head {h : Heap} {v : Value} {vs : List Value} {ds : List PyData} {as : List Addr} (r : ReadsAll h (v :: vs) ds as) : ∃ d as', Reads h v d as' ∧ d ∈ ds := by
  cases r with
  | cons r1 r2 => exact ⟨_, _, r1, List.mem_cons_self⟩
/-- the kind of a value's type -/
theorem looks_type {h : Heap} {v : Value} {d : PyData} {as : List Addr} (r : Reads h v d as) (hc : cmpb d d = true) : ∃ T, ∀ M : Model, Looks M h (typeOf v) (Value.type T) := by
  cases r with
  | none => cases hc
  | bool b => cases hc
  | int i t => exact ⟨"int", fun _ => .now⟩
  | str x t => exact ⟨"str", fun _ => .now⟩
  | list h1 h2 h3 h4 => cases hc
  | tuple h1 h2 h3 h4 => exact ⟨"tuple", fun M => by have q : Looks M h (typeOf (.ref _)) _ := (Looks.ld h1).andThen .now; rw [← h2]; exact q⟩
  | dict => cases hc
theorem cmpbs_head {d : PyData} {ds : List PyData} (h : cmpbs (d :: ds) (d :: ds) = true) : cmpb d d = true := by
  have : (cmpb d d && cmpbs ds ds) = true := h
  exact ((Bool.and_eq_true _ _).mp this).1
theorem first_dtm {v : Value} {d : PyData} (p : PlD s.heap v d) : Dtm prog w A s (firstOfTuple' v) fun r => r.isSome = true → (∃ ds, d = .tuple ds) ∧ ∀ u, r = some u → ∃ T, ∀ M : Model, Looks M s.heap (typeOf u) (Value.type T) := by
  obtain ⟨⟨as, rd⟩, cl, cm, _⟩ := p
  rw [PySem.W.kas_first_eq]
  cases rd with
  | none => cases cm
  | bool b => cases cm
  | int i t => exact ⟨none, (fun z => by cases z), fun Q E q => wpAny_bind ((show Looks _ s.heap (typeOf (.int i t)) (.type "int") from .now).here (by rw [if_pos (by decide)]; exact wpAny_pure q))⟩
  | str x t => exact ⟨none, (fun z => by cases z), fun Q E q => wpAny_bind ((show Looks _ s.heap (typeOf (.str x t)) (.type "str") from .now).here (by rw [if_pos (by decide)]; exact wpAny_pure q))⟩
  | list => cases cm
  | dict => cases cm
  | tuple h1 h2 h3 h4 =>
    rename_i a o vs n xs _
    refine ⟨vs[0]?, fun hs => ⟨⟨xs, rfl⟩, fun u hu => ?_⟩, fun Q E q => ?_⟩
    · cases e : vs.toList with
      | nil =>
        have : vs[0]? = none := by rw [← Array.getElem?_toList, e]; rfl
        rw [this] at hu; cases hu
      | cons v0 vr =>
        have e0 : vs[0]? = some v0 := by rw [← Array.getElem?_toList, e]; rfl
        rw [e0] at hu; cases hu
        rw [e] at h4
        cases h4 with
        | cons r1 r2 => exact looks_type r1 (cmpbs_head cm)
    · refine wpAny_bind (Looks.here (show Looks (model prog w) s.heap (typeOf (.ref a)) o.cls from (Looks.ld h1).andThen .now) ?_)
      rw [h2, if_neg (by decide)]
      exact wpAny_bind (listItems_at h1 h3 (wpAny_pure q))
theorem one_dtm {vs : List Value} (h : ∀ v ∈ vs, ∃ T, ∀ M : Model, Looks M s.heap (typeOf v) (Value.type T)) : Dtm prog w A s (oneTypeOnly' vs.toArray) fun _ => True := by
  rw [oneTypeOnly'_eq, List.mapM_toArray, map_eq_pure_bind]
  refine Dtm.bind (P := fun _ => True) (Dtm.bind (P := fun _ => True) ?_ fun _ _ => Dtm.pure trivial) fun ts _ => ?_
  · obtain ⟨r, _, k⟩ := Dtm.mapM (R := fun _ _ => True) (prog := prog) (w := w) (A := A) (s := s) (f := typeOf) (l := vs) fun v hv => by
      obtain ⟨T, hT⟩ := h v hv
      exact ⟨_, trivial, fun Q E q => (hT _).here q⟩
    exact ⟨r, trivial, k⟩
  · split <;> exact Dtm.pure trivial
def KindOk (κ : SortKind) (ds : List PyData) : Prop := κ = general' ∨ κ = oneType' ∨ ((∃ b, κ = tuples' b) ∧ ∀ d ∈ ds, ∃ xs, d = .tuple xs)
theorem kind_dtm {vs : List Value} {ds : List PyData} (h : All2 (PlD s.heap) vs ds) : Dtm prog w A s (keyKind' vs.toArray) fun κ => KindOk κ ds := by
  rw [keyKind'_eq, List.mapM_toArray, map_eq_pure_bind]
  have ht : Dtm prog w A s (vs.mapM firstOfTuple') fun rs => (rs.all (·.isSome) = true → ∀ d ∈ ds, ∃ xs, d = .tuple xs) ∧ ∀ r ∈ rs, ∀ u, r = some u → ∃ T, ∀ M : Model, Looks M s.heap (typeOf u) (Value.type T) := by
    induction h with
    | nil => rw [List.mapM_nil]; exact Dtm.pure ⟨fun _ d m => (by cases m), fun r m => (by cases m)⟩
    | cons p h ih =>
      rw [List.mapM_cons]
      refine Dtm.bind (first_dtm p) fun r hr => Dtm.bind ih fun rs hrs => Dtm.pure ⟨fun z d m => ?_, fun r' m u hu => ?_⟩
      · have z' : r.isSome = true ∧ rs.all (·.isSome) = true := by simpa using z
        rcases List.mem_cons.mp m with e | m
        · subst e; exact (hr z'.1).1
        · exact hrs.1 z'.2 d m
      · rcases List.mem_cons.mp m with e | m
        · subst e; exact (hr (by rw [hu]; rfl)).2 u hu
        · exact hrs.2 r' m u hu
  refine Dtm.bind (P := fun (rs : Array (Option Value)) => (rs.all (·.isSome) = true → ∀ d ∈ ds, ∃ xs, d = .tuple xs) ∧ ∀ r ∈ rs.toList, ∀ u, r = some u → ∃ T, ∀ M : Model, Looks M s.heap (typeOf u) (Value.type T)) (Dtm.bind ht fun rs hrs => Dtm.pure ⟨fun z => hrs.1 (by simpa using z), by simpa using hrs.2⟩) fun rs hrs => ?_
  have one : ∀ vs : Array Value, (∀ v ∈ vs.toList, ∃ T, ∀ M : Model, Looks M s.heap (typeOf v) (Value.type T)) → Dtm prog w A s (oneTypeOnly' vs) fun _ => True := fun vs h => by
    have := one_dtm (prog := prog) (w := w) (A := A) (s := s) (vs := vs.toList) h
    simpa using this
  by_cases c : rs.all (·.isSome) = true
  · rw [if_pos c]
    refine Dtm.bind (P := fun _ => True) ⟨(), trivial, fun Q E q => wpAny_rule q⟩ fun _ _ => ?_
    refine Dtm.bind (one _ fun v hv => ?_) fun r _ => Dtm.pure (.inr (.inr ⟨⟨_, rfl⟩, hrs.1 c⟩))
    have hv' : some v ∈ rs.toList := by simpa using hv
    exact hrs.2 _ hv' v rfl
  · rw [if_neg c]
    by_cases c2 : (rs[0]?.bind id).isSome = true
    · rw [if_pos c2]
      exact Dtm.pure (.inl rfl)
    · rw [if_neg c2]
      refine Dtm.bind (one _ fun v hv => ?_) fun r _ => ?_
      · obtain ⟨d, _, p⟩ := h.memL v (by simpa using hv)
        obtain ⟨as, rd⟩ := p.rd
        exact looks_type rd p.cm
      · by_cases c3 : r.isSome = true
        · rw [if_pos c3]; exact Dtm.pure (.inr (.inl rfl))
        · rw [if_neg c3]; exact Dtm.pure (.inl rfl)
/-! ### any two are compared -/
theorem one_lt {f : Bool} {x y : PyData} {a b : Value} {as bs : List Addr} {Q : Bool → Shared → Prop} (ra : Reads s.heap a x as) (rb : Reads s.heap b y bs) (hc : cmpb x y = true) (ha : x.canLay0 = true) (hb : y.canLay0 = true)
    (hu : A.units + min x.depth y.depth < cLine) (h : Q (plt x y) s) : wpAny (model prog w) A (oneLt' f a b) Q E s := by
  have R := rc_lt x y A s a b as bs ra rb hc ha hb hu
  cases f with
  | false =>
    rw [oneLt'_eq]
    simp only [Bool.false_eq_true, if_false]
    exact wpAny_bind (R prog w E _ (wpAny_truthy_bool h))
  | true =>
    cases ra with
    | none => cases y <;> cases hc
    | bool => cases y <;> cases hc
    | int i t =>
      cases rb with
      | int j u =>
        have e : plt (.int i) (.int j) = decide (i < j) := by
          show HT.lexLt [i] [j] = _
          rw [HT.lexLt_cons]
          by_cases h : i = j
          · subst h; simp [HT.lexLt]
          · rw [if_neg h]
        rw [e] at h
        exact oneLt_int h
      | _ => cases hc
    | str i t =>
      cases rb with
      | str j u =>
        have e : plt (.str i) (.str j) = decide (i.cps.toList < j.cps.toList) := by
          show HT.lexLt (cdS _) (cdS _) = _
          by_cases h : i.cps.toList = j.cps.toList
          · rw [h]
            have := lex_same (cdS j.cps.toList) [] []
            rw [List.append_nil] at this
            rw [this, decide_eq_false (List.lt_irrefl _)]; rfl
          · rw [← List.append_nil (cdS i.cps.toList), ← List.append_nil (cdS j.cps.toList), cdS_ne _ _ _ _ h]
        rw [e] at h
        exact oneLt_str h
      | _ => cases hc
    | list => cases y <;> cases hc
    | dict => cases y <;> cases hc
    | tuple h1 h2 h3 h4 =>
      cases rb with
      | tuple k1 k2 k3 k4 =>
        rename_i a o vs n xs b o2 ws m ys
        obtain ⟨cls, dd, data, sl⟩ := o
        obtain ⟨cls2, dd2, data2, sl2⟩ := o2
        simp only at h2 h3 k2 k3
        subst h2 h3 k2 k3
        have hu' := SeqAt.room_in hu
        have l1 := SeqAt.ReadsAll.length _ _ _ h4
        have l2 := SeqAt.ReadsAll.length _ _ _ k4
        rw [Array.length_toList] at l1 l2
        rw [oneLt'_eq]
        simp only [if_true]
        refine wpAny_bind (wpAny_cRoomFor (SeqAt.room_here hu) ?_)
        refine wpAny_bind (wpAny_callSpecialIfBound?_slot ⟨_, h1, rfl⟩ F.slot_tuple_lt ?_)
        refine call_meets F.slot_tuple_lt ⟨_, h1, rfl⟩ F.entry_tuple_lt (F.args_tuple_lt_2 _ _) (Ob.tuple_ltAt a b vs ws n m dd dd2 sl sl2 (SeqAt.pairEq xs ys) (pairLt xs ys)) ⟨h1, k1, fun j j1 j2 => ?_, fun j j1 j2 _ => ?_, ?_⟩
        · have := SeqAt.eqAt_readsAll xs ys A.in1 s _ _ _ _ h4 k4 ha hb hu' j (by simpa using j1) (by simpa using j2)
          simpa using this
        · have := rc_lts xs ys A.in1 s _ _ _ _ h4 k4 hc ha hb hu' j (by simpa using j1) (by simpa using j2)
          simpa using this
        · rw [l1, l2, lexAt_cd xs ys hc]
          exact wpAny_truthy_bool h
      | _ => cases hc
theorem kat_data {f : Bool} {Q : Bool → Shared → Prop} : ∀ (xs ys : List PyData) (i : Nat) (vs ws : List Value) (as bs : List Addr), ReadsAll s.heap vs xs as → ReadsAll s.heap ws ys bs → cmpbs xs ys = true → PyData.canLayAll0 xs = true → PyData.canLayAll0 ys = true →
    A.units + min (PyData.depthAll xs) (PyData.depthAll ys) < cLine → ∀ fin : Bool, fin = decide (xs.length < ys.length) → Q (HT.lexLt (cdPs xs) (cdPs ys)) s → PySem.W.KatLex prog w A f fin Q (vs.zip ws) i s
  | [], [], i, _, _, _, _, ra, rb, _, _, _, _, fin, hf, h => by
    cases ra; cases rb
    subst hf
    refine PySem.W.kat_nil (b := f) ?_
    have e : HT.lexLt (cdPs []) (cdPs []) = false := by show HT.lexLt [0] [0] = _; rw [HT.lexLt_cons, if_pos rfl]; rfl
    rw [e] at h
    simpa using h
  | [], y :: ys, i, _, _, _, _, ra, rb, _, _, _, _, fin, hf, h => by
    cases ra; cases rb
    subst hf
    rw [List.zip_nil_left]
    refine PySem.W.kat_nil (b := f) ?_
    rw [plt_tup_nil] at h
    simpa using h
  | x :: xs, [], i, _, _, _, _, ra, rb, _, _, _, _, fin, hf, h => by
    cases ra; cases rb
    subst hf
    rw [List.zip_nil_right]
    refine PySem.W.kat_nil (b := f) ?_
    rw [plt_tup_nil2] at h
    simpa using h
  | x :: xs, y :: ys, i, _, _, _, _, ra, rb, hc, ha, hb, hu, fin, hf, h => by
    have ha' : x.canLay0 = true ∧ PyData.canLayAll0 xs = true := by simpa [PyData.canLayAll0] using ha
    have hb' : y.canLay0 = true ∧ PyData.canLayAll0 ys = true := by simpa [PyData.canLayAll0] using hb
    have hc' : cmpb x y = true ∧ cmpbs xs ys = true := by
      have : (cmpb x y && cmpbs xs ys) = true := hc
      exact (Bool.and_eq_true _ _).mp this
    have hu : A.units + min (max x.depth (PyData.depthAll xs)) (max y.depth (PyData.depthAll ys)) < cLine := hu
    cases ra with
    | cons r rs =>
      cases rb with
      | cons r' rs' =>
        rw [List.zip_cons_cons]
        rw [plt_tup_cons hc'.1] at h
        refine PySem.W.kat_cons (SeqAt.eqAt_reads x y A s _ _ _ _ r r' ha'.1 hb'.1 (SeqAt.room_head hu) prog w _ _ ?_)
        refine PySem.W.kat_go (fun e => PySem.W.kat_yes ?_) (fun e => PySem.W.kat_no ?_)
        · rw [if_pos e] at h
          exact kat_data xs ys (i + 1) _ _ _ _ rs rs' hc'.2 ha'.2 hb'.2 (SeqAt.room_tail hu) fin (by rw [hf]; exact decide_eq_decide.mpr (by simp only [List.length_cons]; omega)) h
        · rw [if_neg (by rw [e]; exact Bool.false_ne_true)] at h
          exact one_lt r r' hc'.1 ha'.1 hb'.1 (SeqAt.room_head hu) h
theorem key_lt {κ : SortKind} {x y : PyData} {a b : Value} {Q : Bool → Shared → Prop} (pa : PlD s.heap a x) (pb : PlD s.heap b y) (hc : cmpb x y = true) (hk : κ = general' ∨ κ = oneType' ∨ ((∃ f, κ = tuples' f) ∧ (∃ xs, x = .tuple xs) ∧ ∃ ys, y = .tuple ys))
    (hu : A.units + 64 < cLine) (h : Q (plt x y) s) : wpAny (model prog w) A (keyLt' κ a b) Q E s := by
  obtain ⟨as, ra⟩ := pa.rd
  obtain ⟨bs, rb⟩ := pb.rd
  have hu' : A.units + min x.depth y.depth < cLine := by have := pa.dp; have : min x.depth y.depth ≤ x.depth := Nat.min_le_left _ _; omega
  rcases hk with e | e | ⟨⟨f, e⟩, ⟨xs, ex⟩, ys, ey⟩
  · subst e
    exact (show wpAny (model prog w) A (oneLt' false a b) Q E s from one_lt ra rb hc pa.cl pb.cl hu' h)
  · subst e
    exact (show wpAny (model prog w) A (oneLt' true a b) Q E s from one_lt ra rb hc pa.cl pb.cl hu' h)
  · subst e ex ey
    cases ra with
    | tuple h1 h2 h3 h4 =>
      cases rb with
      | tuple k1 k2 k3 k4 =>
        have l1 := SeqAt.ReadsAll.length _ _ _ h4
        have l2 := SeqAt.ReadsAll.length _ _ _ k4
        rw [Array.length_toList] at l1 l2
        refine PySem.W.kat_lt h1 h3 k1 k3 (kat_data xs ys 0 _ _ _ _ h4 k4 hc pa.cl pb.cl ?_ _ (by rw [l1, l2]) h)
        have hu'' := SeqAt.room_in hu'
        omega
/-- a value's code, by the heap -/
noncomputable def rdK (h : Heap) (v : Value) : List Int := open Classical in if z : ∃ d, ∃ as, Reads h v d as then cdP z.choose else []
theorem rdK_eq {h : Heap} {v : Value} {d : PyData} {as : List Addr} (r : Reads h v d as) : rdK h v = cdP d := by
  have z : ∃ d, ∃ as, Reads h v d as := ⟨d, as, r⟩
  unfold rdK
  rw [dif_pos z]
  obtain ⟨as', r'⟩ := z.choose_spec
  rw [(reads_det (fun _ _ e _ => e) r r').1]
theorem sorted_data {l : Addr} {vs : List Value} {ds : List PyData} {Q : Value → Shared → Prop} (hl : s.heap.IsList l vs.toArray) (hz : vs.length ≤ sizeLine) (hp : All2 (PlD s.heap) vs ds) (hc : ∀ x ∈ ds, ∀ y ∈ ds, cmpb x y = true) (hu : A.units + 66 < cLine)
    (h : ∀ out : List Value, SrtO.Srtd (fun v u => HT.lexLt (rdK s.heap v) (rdK s.heap u)) out → SrtO.Stb (fun v u => HT.lexLt (rdK s.heap v) (rdK s.heap u)) out vs → Q (.ref (s.heap.objs.size + 1)) { s with heap := sortedAll s.heap vs out.toArray }) :
    wpAny (model prog w) A (call (.builtin "sorted") [.ref l]) Q E s := by
  refine SrtO.sorted_ord (NtL.swo_lexL (rdK s.heap)) hl hz (fun h2 h₁ a ha kk => ?_) h
  intro h' keep
  have kp : ∀ b o, s.heap.get? b = some o → h'.get? b = some o := fun b o e => keep b o (kk b o e).1 (kk b o e).2
  have up : ∀ {v d}, PlD s.heap v d → PlD h' v d := fun p => ⟨let ⟨as, r⟩ := p.rd; ⟨as, PyProof.Rows.Reads.keeps kp r⟩, p.cl, p.cm, p.dp⟩
  have hp' : All2 (PlD h') vs ds := hp.map fun _ _ p => up p
  have mem : ∀ v ∈ vs, ∃ d ∈ ds, PlD s.heap v d := hp.memL
  obtain ⟨κ, hκ, k⟩ := kind_dtm (prog := prog) (w := w) (A := A.in1.in1) (s := { s with heap := h' }) hp'
  refine ⟨κ, fun Q E q => k Q E q, fun p q hp1 hq1 => ?_⟩
  obtain ⟨d, hd, pd⟩ := mem _ hp1
  obtain ⟨e, he, pe⟩ := mem _ hq1
  obtain ⟨as, r1⟩ := pd.rd
  obtain ⟨bs, r2⟩ := pe.rd
  refine key_lt (s := { s with heap := h' }) (up pd) (up pe) (hc d hd e he) ?_ (by show A.units + 1 + 1 + 64 < cLine; omega) ⟨rfl, ?_⟩
  · rcases hκ with z | z | ⟨z, z2⟩
    · exact .inl z
    · exact .inr (.inl z)
    · exact .inr (.inr ⟨z, z2 d hd, z2 e he⟩)
  · show _ = HT.lexLt (rdK s.heap p.1) (rdK s.heap q.1)
    rw [rdK_eq r1, rdK_eq r2]
end
end Lw

set_option Elab.async false
set_option linter.all false
set_option maxRecDepth 100000
set_option maxHeartbeats 4000000
namespace Lw
open PySem PySem.Spec PyProof.Rows L2
/-! ### the order on T -/
abbrev cdT (t : T) : List Int := cdP (pdT t)
abbrev tlt (x y : T) : Bool := HT.lexLt (cdT x) (cdT y)
structure SrtOk (xs : List T) : Prop where
  ok : ∀ x ∈ xs, okT x = true ∧ dpT x ≤ 50
  cm : ∀ x ∈ xs, ∀ y ∈ xs, cmpb (pdT x) (pdT y) = true
theorem lex_tot : ∀ a b : List Int, HT.lexLt a b = false → HT.lexLt b a = false → a = b
  | [], [], _, _ => rfl
  | [], b :: y, h, _ => by rw [HT.lexLt_nil_cons] at h; cases h
  | a :: x, [], _, h => by rw [HT.lexLt_nil_cons] at h; cases h
  | a :: x, b :: y, h, h2 => by
    rw [HT.lexLt_cons] at h h2
    by_cases e : a = b
    · subst e
      rw [if_pos rfl] at h h2
      rw [lex_tot x y h h2]
    · rw [if_neg e] at h
      rw [if_neg (Ne.symm e)] at h2
      have h1 := of_decide_eq_false h
      have h2 := of_decide_eq_false h2
      omega
theorem cd_inj {x y : PyData} (h : cmpb x y = true) (e : cdP x = cdP y) : x = y := by
  cases q : PyData.eqv x y with
  | true => exact cd_eq x y h q
  | false =>
    have a := cd_ne x y [0] [1] h q
    unfold plt at a
    rw [e, lex_same] at a
    have b := lex_same (cdP y) [] []
    rw [List.append_nil] at b
    rw [b] at a
    exact absurd a (by decide)
mutual
theorem pdT_inj : ∀ x y : T, okT x = true → okT y = true → pdT x = pdT y → x = y
  | .non, y, _, h2, h => by cases y <;> first | rfl | (simp [pdT] at h; done) | cases h2
  | .bl b, y, _, h2, h => by cases y <;> first | (simp [pdT] at h; rw [h]; done) | (simp [pdT] at h; done) | cases h2
  | .int b, y, _, h2, h => by cases y <;> first | (simp [pdT] at h; rw [h]; done) | (simp [pdT] at h; done) | cases h2
  | .str b, y, _, h2, h => by cases y <;> first | (simp [pdT] at h; rw [h]; done) | (simp [pdT] at h; done) | cases h2
  | .tup xs, .tup ys, h1, h2, h => by
    simp only [pdT, PyData.tuple.injEq] at h
    rw [pdTs_inj xs ys h1 h2 h]
  | .tup xs, .non, _, _, h => by simp [pdT] at h
  | .tup xs, .bl _, _, _, h => by simp [pdT] at h
  | .tup xs, .int _, _, _, h => by simp [pdT] at h
  | .tup xs, .str _, _, _, h => by simp [pdT] at h
  | .ref _, _, h, _, _ => by cases h
  | .ty _, _, h, _, _ => by cases h
  | .scr _, _, h, _, _ => by cases h
theorem pdTs_inj : ∀ xs ys : List T, okTs xs = true → okTs ys = true → pdTs xs = pdTs ys → xs = ys
  | [], [], _, _, _ => rfl
  | [], _ :: _, _, _, h => by cases h
  | _ :: _, [], _, _, h => by cases h
  | x :: xs, y :: ys, h1, h2, h => by
    have h1' : (okT x && okTs xs) = true := h1
    have h2' : (okT y && okTs ys) = true := h2
    rw [Bool.and_eq_true] at h1' h2'
    have h' : pdT x :: pdTs xs = pdT y :: pdTs ys := h
    have e := List.cons.inj h'
    rw [pdT_inj x y h1'.1 h2'.1 e.1, pdTs_inj xs ys h1'.2 h2'.2 e.2]
end
theorem SrtOk.uniq {xs ys zs : List T} (h : SrtOk zs) (p1 : xs.Perm zs) (p2 : ys.Perm zs) (s1 : xs.Pairwise fun x y => tlt y x = false) (s2 : ys.Pairwise fun x y => tlt y x = false) : xs = ys := by
  refine List.Perm.eq_of_pairwise (fun a b ha hb q1 q2 => ?_) s1 s2 (p1.trans p2.symm)
  have ha' := p1.mem_iff.mp ha
  have hb' := p2.mem_iff.mp hb
  exact pdT_inj a b (h.ok a ha').1 (h.ok b hb').1 (cd_inj (h.cm a ha' b hb') (lex_tot _ _ q2 q1))
/-! ### sorted -/
theorem All2.perm {α β : Type} {R : α → β → Prop} {l m : List α} (p : l.Perm m) : ∀ {xs : List β}, All2 R l xs → ∃ ys, All2 R m ys ∧ ys.Perm xs := by
  induction p with
  | nil => intro xs h; exact ⟨xs, h, List.Perm.refl _⟩
  | cons a p ih =>
    intro xs h
    cases h with
    | cons r h =>
      obtain ⟨ys, h1, h2⟩ := ih h
      exact ⟨_, .cons r h1, h2.cons _⟩
  | swap a b l =>
    intro xs h
    cases h with
    | cons r h =>
      cases h with
      | cons r2 h => exact ⟨_, .cons r2 (.cons r h), List.Perm.swap ..⟩
  | trans p q ih1 ih2 =>
    intro xs h
    obtain ⟨ys, h1, h2⟩ := ih1 h
    obtain ⟨zs, h3, h4⟩ := ih2 h1
    exact ⟨zs, h3, h4.trans h2⟩
theorem All2.pw {α β : Type} {R : α → β → Prop} {S : α → α → Prop} {S' : β → β → Prop} (g : ∀ u x u' x', R u x → R u' x' → S u u' → S' x x') {l : List α} {xs : List β} (h : All2 R l xs) : l.Pairwise S → xs.Pairwise S' := by
  induction h with
  | nil => intro _; exact .nil
  | cons r h ih =>
    intro p
    obtain ⟨p1, p2⟩ := List.pairwise_cons.mp p
    refine List.pairwise_cons.mpr ⟨fun y hy => ?_, ih p2⟩
    obtain ⟨v, hv, q⟩ := h.mem y hy
    exact g _ _ _ _ r q (p1 v hv)
def RdT (K : PySem.W.Frag) (H : Hp) (h : Heap) (u : Value) (x : T) : Prop := ∃ v, RelV v u ∧ Rp K H x v ∧ ∃ as, Reads h u (pdT x) as
theorem rdT_of {X : Cx} {pins : List (Addr × Obj)} {σ : L2.St} {H : Hp} {s : Shared} (I : Inv X pins σ H s) : ∀ {xs : List T} {ws : List V} {its : List Value}, (∀ x ∈ xs, okT x = true ∧ dpT x ≤ 50) → RpL X.K H xs ws → Vals ws its → All2 (RdT X.K H s.heap) its xs
  | [], _, _, _, rr, rv => by
    rw [show _ = [] from rr] at rv
    cases rv
    exact .nil
  | x :: xs, _, _, ok, ⟨v, r, e, h, hr⟩, rv => by
    subst e
    cases rv with
    | cons r1 r2 =>
      refine .cons ⟨v, r1, h, ?_⟩ (rdT_of I (fun y m => ok y (List.mem_cons_of_mem _ m)) hr r2)
      exact Dp.reads I _ _ _ (pd_dp x v (ok x List.mem_cons_self).1 h) r1
theorem rdT_back {K : PySem.W.Frag} {H : Hp} {h : Heap} {its : List Value} {xs : List T} (a : All2 (RdT K H h) its xs) : ∃ ws, RpL K H xs ws ∧ Vals ws its := by
  induction a with
  | nil => exact ⟨[], rfl, .nil⟩
  | cons r _ ih =>
    obtain ⟨v, r1, r2, _⟩ := r
    obtain ⟨ws, q1, q2⟩ := ih
    exact ⟨v :: ws, ⟨v, ws, rfl, r2, q1⟩, .cons r1 q2⟩
theorem rdT_pl {K : PySem.W.Frag} {H : Hp} {h : Heap} {its : List Value} {xs : List T} (ok : SrtOk xs) (a : All2 (RdT K H h) its xs) : All2 (PlD h) its (xs.map pdT) := by
  have ok1 := ok.ok
  have ok2 : ∀ x ∈ xs, cmpb (pdT x) (pdT x) = true := fun x m => ok.cm x m x m
  clear ok
  induction a with
  | nil => exact .nil
  | cons r _ ih =>
    obtain ⟨v, r1, r2, r3⟩ := r
    have o := ok1 _ List.mem_cons_self
    refine .cons ⟨r3, pd_can _ o.1, ok2 _ List.mem_cons_self, ?_⟩ (ih (fun y m => ok1 y (List.mem_cons_of_mem _ m)) (fun y m => ok2 y (List.mem_cons_of_mem _ m)))
    have := pd_depth _ o.1
    omega
def fSorted : QC := fun ts G Q => match ts with
  | [.ref a] => ∃ xs, G a = some (.lst xs) ∧ SrtOk xs ∧ ∀ ys, ys.Perm xs → ys.Pairwise (fun x y => tlt y x = false) → ∀ p, G p = none → Q (.ref p) (gput G p (.lst ys))
  | _ => False
section
variable {X : Cx}
theorem b_sorted (hu : X.A.units + 66 < cLine) : CallR X (.builtin "sorted") (cC X.K fSorted) := by
  intro pins s σ H vs us KQ I r h
  obtain ⟨ts, G, Q, hr, ha, hf, hk⟩ := h
  unfold fSorted at hf
  split at hf
  · obtain ⟨xs, hg, ok, q⟩ := hf
    obtain ⟨v, rfl, h1⟩ := rpl1 hr
    cases h1
    obtain ⟨ws, hp, rr⟩ := ha _ _ hg
    obtain ⟨its, rv, hl, hz⟩ := I.list (SqL.of hp)
    rw [Vals.ref1 r]
    have a0 := rdT_of I ok.ok rr rv
    have zl : its.length ≤ sizeLine := by rw [← rv.length]; exact hz
    refine sorted_data hl.isList zl (rdT_pl ok a0) (fun x hx y hy => ?_) hu fun out h1 h2 => ?_
    · obtain ⟨x', hx', rfl⟩ := List.mem_map.mp hx
      obtain ⟨y', hy', rfl⟩ := List.mem_map.mp hy
      exact ok.cm x' hx' y' hy'
    · obtain ⟨ys, a1, py⟩ := a0.perm h2.perm.symm
      obtain ⟨ws', q1, q2⟩ := rdT_back a1
      have sy : ys.Pairwise fun x y => tlt y x = false := a1.pw (S' := fun x y => tlt y x = false) (fun u x u' x' ⟨_, _, _, as, r1⟩ ⟨_, _, _, bs, r2⟩ e => by
        have e : HT.lexLt (rdK s.heap u') (rdK s.heap u) = false := e
        rw [rdK_eq r1, rdK_eq r2] at e
        exact e) h1
      obtain ⟨ep, he'⟩ := PyProof.Rows.sortedAll_at s.heap its out.toArray
      have hlen : ws'.length ≤ sizeLine := by
        rw [q2.length, h2.perm.length_eq]; exact zl
      have fr : H (s.heap.objs.size + 1) = none := I.hok.fresh (Nat.le_succ _)
      have k : Tups H (upd H (s.heap.objs.size + 1) (.lst ws')) := Tups.new fr
      refine ⟨.ref _, upd H (s.heap.objs.size + 1) (.lst ws'), I.laid (t' := s.toks) (fun _ _ => PyProof.Rows.sortedAll_old) (Nat.le_succ _) ⟨hlen, out, ep, q2, he'⟩, rfl, ?_⟩
      exact hk _ _ (.ref _) _ k (ha.put (o := .lst ys) ⟨fun xs z => (by rw [fr] at z; cases z), fun o xs z => (by rw [fr] at z; cases z)⟩ ⟨ws', upd_same, q1.mono k⟩) rfl (q ys py sy _ (ha.free fr))
  · exact hf.elim
/-! ### < of tuples -/
def fLt2 : Q2 := fun x y G Q => match x, y with
  | .int i, .int j => Q (.bl (decide (i < j))) G
  | .str i, .str j => Q (.bl (decide (i.cps.toList < j.cps.toList))) G
  | .tup xs, .tup ys => eqOk (.tup xs) = true ∧ eqOk (.tup ys) = true ∧ cmpb (pdT (.tup xs)) (pdT (.tup ys)) = true ∧ Q (.bl (tlt (.tup xs) (.tup ys))) G
  | _, _ => False
theorem o_lt2 (hu : X.A.units + 66 < cLine) : OpR X (compareOp .Lt) (c2 X.K fLt2) := by
  intro pins s σ H v w u u' KQ I rv rw' h2
  obtain ⟨x, y, G, Q, hx, hy, ha, hf, hk⟩ := h2
  unfold fLt2 at hf
  split at hf
  · exact op_lt pins s σ H v w u u' KQ I rv rw' ⟨_, _, hx, hy, hk _ H _ G (Tups.refl H) ha (show Rp X.K H (.bl _) (.bl _) from rfl) hf⟩
  · exact op_lt_str pins s σ H v w u u' KQ I rv rw' ⟨_, _, hx, hy, hk _ H _ G (Tups.refl H) ha (show Rp X.K H (.bl _) (.bl _) from rfl) hf⟩
  · obtain ⟨o1, o2, hc, hf⟩ := hf
    obtain ⟨as, r1⟩ := Dp.reads I _ _ _ (pd_dp _ _ (eqOk_ok o1) hx) rv
    obtain ⟨bs, r2⟩ := Dp.reads I _ _ _ (pd_dp _ _ (eqOk_ok o2) hy) rw'
    have hd := pd_depth _ (eqOk_ok o1)
    have hd2 := eqOk_dp o1
    refine rc_lt _ _ X.A s u u' as bs r1 r2 hc (pd_can _ (eqOk_ok o1)) (pd_can _ (eqOk_ok o2)) (Nat.lt_of_le_of_lt (Nat.add_le_add_left (Nat.min_le_left _ _) _) (by omega)) _ _ _ _ ?_
    exact ⟨.bl _, H, I, rfl, hk _ H (.bl _) G (Tups.refl H) ha rfl hf⟩
  · exact hf.elim
end
theorem un66 {k : Nat} {A : Around} (r : Room k A) : A.units + 66 < cLine := by have := r.un; omega
end Lw

set_option Elab.async false
set_option linter.all false
set_option maxRecDepth 100000
set_option maxHeartbeats 4000000
namespace Lw
open PySem PySem.Spec PyProof.Rows L2
/-! ### comprehensions with two fors -/
def qLc2 (qi : QI) (qg : QG) (qt : QT) (qi1 : QI) (qg1 : QG) (qt1 : QT) (qe : QE) (own vs1 : List Nat) : QE := fun ρ G Q => qi ρ G fun ts St G1 => ∀ D, G1 D = none → ∃ I : Nat → List T → Gp → Prop, I 0 [] (gput G1 D (.lst [])) ∧ (∀ i acc G, i ≤ ts.length → I i acc G → St G) ∧
  (∀ i t acc G, ts[i]? = some t → I i acc G → wipeK ρ own fun ρ1 => qg t ρ1 G fun ρ2 G2 => qt ρ2 G2 fun b G3 => (b = true → qi1 ρ2 G3 fun us St1 G4 => ∃ I1 : Nat → List T → Gp → Prop, I1 0 acc G4 ∧ (∀ j acc G, j ≤ us.length → I1 j acc G → St1 G) ∧
      (∀ j u acc G, us[j]? = some u → I1 j acc G → wipeK ρ2 vs1 fun ρ3 => qg1 u ρ3 G fun ρ4 G5 => qt1 ρ4 G5 fun b G6 => (b = true → qe ρ4 G6 fun y G7 => G7 D = some (.lst acc) ∧ acc.length < 100000 ∧ ∃ G8, Sub G8 (gput G7 D (.lst (acc ++ [y]))) ∧ I1 (j + 1) (acc ++ [y]) G8) ∧ (b = false → ∃ G8, Sub G8 G6 ∧ I1 (j + 1) acc G8)) ∧
      ∀ acc G, I1 us.length acc G → ∃ G8, Sub G8 G ∧ I (i + 1) acc G8) ∧ (b = false → ∃ G8, Sub G8 G3 ∧ I (i + 1) acc G8)) ∧
  ∀ acc G, I ts.length acc G → Q (.ref D) G
section
variable {X : Cx} {tg elt iter tg1 iter1 : Expr} {ifs ifs1 : List Expr} {scope : Scope} {own : List (Str × Nat)} {vs1 : List Nat} {pos : Pos} {qi qi1 : QI} {qg qg1 : QG} {qt qt1 : QT} {qel : QE}
theorem lc2_wk : ∀ σ H KQ, cE X.K (qLc2 qi qg qt qi1 qg1 qt1 qel (own.map (·.2)) vs1) σ H KQ → tLc2 (cI X.K qi) (cG X.K (own.map (·.2)) qg) (cT X.K qt) (cI X.K qi1) (cG X.K vs1 qg1) (cT X.K qt1) (cE X.K qel) (own.map (·.2)) vs1 σ H KQ := fun σ H KQ h => by
  obtain ⟨ρ, G, Q, e, a, q, f⟩ := h
  refine ⟨ρ, G, _, e, a, q, fun J H1 ts St G1 k1 a1 w q1 => fun D hD => ?_⟩
  obtain ⟨I, i0, hst, turn, done⟩ := q1 D (a1.free hD)
  have kD : Tups H1 (upd H1 D (.lst [])) := Tups.new hD
  refine ⟨fun i m H' => m = ts.length - i ∧ i ≤ ts.length ∧ Tups H1 H' ∧ ∃ acc G', Abs X.K H' G' ∧ I i acc G',
    ⟨ts.length, by simp, Nat.zero_le _, kD, [], _, a1.put (o := .lst []) ⟨fun xs z => (by rw [hD] at z; cases z), fun o xs z => (by rw [hD] at z; cases z)⟩ ⟨[], upd_same, rfl⟩, i0⟩, ?_⟩
  rintro i m H2 ⟨rfl, hi, k2, acc, G2, a2, j2⟩
  have st := hst i acc G2 hi j2
  have e2 : EnvR X.K H2 ρ σ := e.mono (k1.trans k2)
  by_cases hlt : i < ts.length
  · refine .inr ⟨w.goes i H2 G2 hlt k2 a2 st, fun H' => Tups H1 H' ∧ ∃ acc G', Abs X.K H' G' ∧ I (i + 1) acc G', fun H' p => ⟨ts.length - (i + 1), by omega, rfl, hlt, p⟩, fun x H3 y => ?_⟩
    obtain ⟨k3, a3, t, ht, r3⟩ := w.yields i H2 G2 x H3 hlt k2 a2 st y
    have k23 := k2.trans k3
    refine ⟨t, _, G2, _, r3, (e2.mono k3).wipe _, a3, wipeK_wipe (turn i t acc G2 ht j2), fun σ4 H4 ρ4 G4 w4 k4 e4 a4 q4 => ⟨?_, ?_⟩⟩
    · rw [w4]
      exact wipe_wipe
    · refine ⟨ρ4, G4, _, e4, a4, q4, fun b H5 G5 k5 a5 q5 => ?_⟩
      have k15 := (k23.trans k4).trans k5
      cases b with
      | false =>
        show (if false = true then _ else _)
        rw [if_neg Bool.false_ne_true]
        obtain ⟨G6, sb, j6⟩ := q5.2 rfl
        exact ⟨k15, acc, G6, a5.sub sb, j6⟩
      | true =>
        show (if true = true then _ else _)
        rw [if_pos rfl]
        refine ⟨ρ4, G5, _, e4.mono k5, a5, q5.1 rfl, fun J1 H6 us St1 G6 k6 a6 w1 ⟨I1, j0, hst1, turn1, done1⟩ => ?_⟩
        have k16 := k15.trans k6
        refine ⟨fun j m H' => m = us.length - j ∧ j ≤ us.length ∧ Tups H6 H' ∧ ∃ acc G', Abs X.K H' G' ∧ I1 j acc G', ⟨us.length, by simp, Nat.zero_le _, Tups.refl _, acc, G6, a6, j0⟩, ?_⟩
        rintro j m2 H7 ⟨rfl, hj, k7, acc7, G7, a7, j7⟩
        have st7 := hst1 j acc7 G7 hj j7
        by_cases hlt1 : j < us.length
        · refine .inr ⟨w1.goes j H7 G7 hlt1 k7 a7 st7, fun H' => Tups H6 H' ∧ ∃ acc G', Abs X.K H' G' ∧ I1 (j + 1) acc G', fun H' p => ⟨us.length - (j + 1), by omega, rfl, hlt1, p⟩, fun x8 H8 y8 => ?_⟩
          obtain ⟨k8, a8, t8, ht8, r8⟩ := w1.yields j H7 G7 x8 H8 hlt1 k7 a7 st7 y8
          have k78 := k7.trans k8
          have e8 : EnvR X.K H8 ρ4 σ4 := e4.mono ((k5.trans k6).trans k78)
          refine ⟨t8, _, G7, _, r8, e8.wipe _, a8, wipeK_wipe (turn1 j t8 acc7 G7 ht8 j7), fun σ9 H9 ρ9 G9 w9 k9 e9 a9 q9 => ⟨?_, ?_⟩⟩
          · rw [w9]
            exact wipe_wipe
          · refine ⟨ρ9, G9, _, e9, a9, q9, fun b H10 G10 k10 a10 q10 => ?_⟩
            have kk := (k78.trans k9).trans k10
            cases b with
            | false =>
              show (if false = true then _ else _)
              rw [if_neg Bool.false_ne_true]
              obtain ⟨G11, sb, j11⟩ := q10.2 rfl
              exact ⟨kk, acc7, G11, a10.sub sb, j11⟩
            | true =>
              show (if true = true then _ else _)
              rw [if_pos rfl]
              refine ⟨ρ9, G10, _, e9.mono k10, a10, q10.1 rfl, fun v H11 y11 G11 k11 a11 r11 ⟨gd, hz, G12, sb, j12⟩ => ?_⟩
              obtain ⟨vs, hv, rv⟩ := a11 _ _ gd
              have wr : Wr H11 D := Wr.of hv (fun _ z => by cases z) (fun _ _ z => by cases z)
              have k12 := Tups.set (o := .lst (vs ++ [v])) wr
              exact ⟨vs, hv, by rw [rv.length]; exact Nat.lt_of_lt_of_le hz (by decide), (kk.trans k11).trans k12, acc7 ++ [y11], G12, Abs.sub (a11.put (o := .lst (acc7 ++ [y11])) wr ⟨_, upd_same, (rv.append (RpL.one r11)).mono k12⟩) sb, j12⟩
        · have e' : j = us.length := by omega
          subst e'
          obtain ⟨G8, sb, j8⟩ := done1 acc7 G7 j7
          exact .inl ⟨w1.stops H7 G7 k7 a7 st7, k16.trans k7, acc7, G8, a7.sub sb, j8⟩
  · have e' : i = ts.length := by omega
    subst e'
    exact .inl ⟨w.stops H2 G2 k2 a2 st, f _ H2 (.ref D) G2 (k1.trans k2) a2 rfl (done acc G2 j2)⟩
theorem e_lc2 (hc : X.calm = true) (hN : X.N.Nodup) (hi : PI X tg iter (cI X.K qi)) (ok : BlkOk X.N X.env.scope scope own) (hv : ∀ i ∈ vs1, i ∈ own.map (·.2))
    (hg : ∀ (s : Shared) (H : Hp) (C : Addr) (cl : List (Str × Addr)) (fp : List Addr), PG (X.blk s H scope (compEnvC scope cl C X.env) fp) tg (cG X.K (own.map (·.2)) qg)) (ht : ∀ (s : Shared) (H : Hp) (C : Addr) (cl : List (Str × Addr)) (fp : List Addr), PTs (X.blk s H scope (compEnvC scope cl C X.env) fp) ifs (cT X.K qt))
    (hi1 : ∀ (s : Shared) (H : Hp) (C : Addr) (cl : List (Str × Addr)) (fp : List Addr), PI (X.blk s H scope (compEnvC scope cl C X.env) fp) tg1 iter1 (cI X.K qi1))
    (hg1 : ∀ (s : Shared) (H : Hp) (C : Addr) (cl : List (Str × Addr)) (fp : List Addr), PG (X.blk s H scope (compEnvC scope cl C X.env) fp) tg1 (cG X.K vs1 qg1)) (ht1 : ∀ (s : Shared) (H : Hp) (C : Addr) (cl : List (Str × Addr)) (fp : List Addr), PTs (X.blk s H scope (compEnvC scope cl C X.env) fp) ifs1 (cT X.K qt1))
    (he : ∀ (s : Shared) (H : Hp) (C : Addr) (cl : List (Str × Addr)) (fp : List Addr), PE (X.blk s H scope (compEnvC scope cl C X.env) fp) elt (cE X.K qel)) (hs : ∀ x, foldedSetIterable iter X.env x = pure x := by intro _; rfl) (hs1 : ∀ (env : PySem.Env) x, foldedSetIterable iter1 env x = pure x := by intro _ _; rfl) :
    PE X (.ListComp elt [⟨tg, iter, ifs, 0⟩, ⟨tg1, iter1, ifs1, 0⟩] scope pos) (cE X.K (qLc2 qi qg qt qi1 qg1 qt1 qel (own.map (·.2)) vs1)) := PE.wk (pe_lc2 hc hN hi ok hv hg ht hi1 hg1 ht1 he hs hs1) lc2_wk
theorem s_setLc2 {i : Nat} {y : Str} {py spos : Pos} (hc : X.calm = true) (hN : X.N.Nodup) (hy : X.N[i]? = some y) (hyl : X.env.scope.names.lookup y = some .local)
    (hsw : swapsWith (.ListComp elt [⟨tg, iter, ifs, 0⟩, ⟨tg1, iter1, ifs1, 0⟩] scope pos) (some (.Name y py)) spos.line X.env = pure true) (hi : PI X tg iter (cI X.K qi)) (ok : BlkOk X.N X.env.scope scope own) (hv : ∀ i ∈ vs1, i ∈ own.map (·.2))
    (hg : ∀ (s : Shared) (H : Hp) (C : Addr) (cl : List (Str × Addr)) (fp : List Addr), PG (X.blk s H scope (compEnvC scope cl C X.env) fp) tg (cG X.K (own.map (·.2)) qg)) (ht : ∀ (s : Shared) (H : Hp) (C : Addr) (cl : List (Str × Addr)) (fp : List Addr), PTs (X.blk s H scope (compEnvC scope cl C X.env) fp) ifs (cT X.K qt))
    (hi1 : ∀ (s : Shared) (H : Hp) (C : Addr) (cl : List (Str × Addr)) (fp : List Addr), PI (X.blk s H scope (compEnvC scope cl C X.env) fp) tg1 iter1 (cI X.K qi1))
    (hg1 : ∀ (s : Shared) (H : Hp) (C : Addr) (cl : List (Str × Addr)) (fp : List Addr), PG (X.blk s H scope (compEnvC scope cl C X.env) fp) tg1 (cG X.K vs1 qg1)) (ht1 : ∀ (s : Shared) (H : Hp) (C : Addr) (cl : List (Str × Addr)) (fp : List Addr), PTs (X.blk s H scope (compEnvC scope cl C X.env) fp) ifs1 (cT X.K qt1))
    (he : ∀ (s : Shared) (H : Hp) (C : Addr) (cl : List (Str × Addr)) (fp : List Addr), PE (X.blk s H scope (compEnvC scope cl C X.env) fp) elt (cE X.K qel)) (hs : ∀ x, foldedSetIterable iter X.env x = pure x := by intro _; rfl) (hs1 : ∀ (env : PySem.Env) x, foldedSetIterable iter1 env x = pure x := by intro _ _; rfl) :
    PS X (.Assign [.Name y py] (.ListComp elt [⟨tg, iter, ifs, 0⟩, ⟨tg1, iter1, ifs1, 0⟩] scope pos) spos) (cS X.K (qAsg (qLc2 qi qg qt qi1 qg1 qt1 qel (own.map (·.2)) vs1) (gNm i))) := PS.wk (ps_setLc2 hc hN hy hyl hsw hi ok hv hg ht hi1 hg1 ht1 he hs hs1) fun D σ H h => by
  obtain ⟨ρ, G, D', e, a, q, f⟩ := h
  exact lc2_wk σ H _ ⟨ρ, G, _, e, a, q, fun v H1 t G1 k1 a1 r1 q1 => f.nx _ H1 _ G1 k1 ((e.mono k1).put r1 i) a1 (putK_put q1)⟩
end
/-! ### behind an if: the ways joined -/
def qCut (t u : QS) : QS := fun D ρ G => ∃ P : REnv → Gp → Prop, t { D with nx := Wk P } ρ G ∧ ∀ ρ G, P ρ G → u D ρ G
theorem ss_cut {X : Cx} {st : Stmt} {rest : List Stmt} {q1 q2 : QS} (h1 : PS X st (cS X.K q1)) (h2 : PSs X rest (cS X.K q2)) : PSs X (st :: rest) (cS X.K (qCut q1 q2)) := PSs.wk (pss_cons h1 h2) fun D σ H h => by
  obtain ⟨ρ, G, D', e, a, ⟨P, q, r⟩, f⟩ := h
  exact ⟨ρ, G, _, e, a, q, ⟨fun σ' H' ρ' G' k e' a' ⟨ρ1, G1, le, sb, p⟩ => ⟨ρ1, G1, D', e'.le le, a'.sub sb, r ρ1 G1 p, f.from k⟩, f.rt, f.bk, f.ct⟩⟩
end Lw

set_option Elab.async false
set_option linter.all false
set_option maxRecDepth 100000
set_option maxHeartbeats 4000000
namespace Lw
open PySem PySem.Spec PyProof.Rows L2
/-! ### truths among whole numbers -/
section
variable {prog : Program} {w : World} {A : Around} {E : Value → Shared → Prop} {s : Shared}
theorem g_bi_add (b : Bool) (i : Int) (t : Tok) : Gives (Builtin.«int.__add__» ⟨[.bool b, .int i t], []⟩) (.int (b2i b + i)) :=
  .of_wp fun M A E s Q h => by obtain ⟨hp, g, d, tk, os⟩ := s; wp_walk; exact ⟨_, rfl, h⟩
theorem g_bi_sub (b : Bool) (i : Int) (t : Tok) : Gives (Builtin.«int.__sub__» ⟨[.bool b, .int i t], []⟩) (.int (b2i b - i)) :=
  .of_wp fun M A E s Q h => by obtain ⟨hp, g, d, tk, os⟩ := s; wp_walk; exact ⟨_, rfl, h⟩
theorem g_b_neg (b : Bool) : Gives (Builtin.«int.__neg__» ⟨[.bool b], []⟩) (.int (-b2i b)) :=
  .of_wp fun M A E s Q h => by obtain ⟨hp, g, d, tk, os⟩ := s; wp_walk; exact ⟨_, rfl, h⟩
theorem add_bi {b : Bool} {i : Int} {t : Tok} {Q : Value → Shared → Prop} (h : Q (.int (b2i b + i) s.toks) { s with toks := s.toks + 1 }) : wpAny (model prog w) A (binaryOp .Add (.bool b) (.int i t)) Q E s :=
  binaryOp_left_gives (op := .Add) (T := "bool") (U := "int") (by decide) (typeIs_bool' s b) (fun s' => typeIs_int s' i t) F.fills_bool_add F.fills_int_add PySem.isSubtype_int_bool F.slot_bool_add F.slot_int_radd F.entry_int_add (F.args_int_add_2 _ _)
    (g_bi_add b i t) trivial h
theorem sub_bi {b : Bool} {i : Int} {t : Tok} {Q : Value → Shared → Prop} (h : Q (.int (b2i b - i) s.toks) { s with toks := s.toks + 1 }) : wpAny (model prog w) A (binaryOp .Sub (.bool b) (.int i t)) Q E s :=
  binaryOp_left_gives (op := .Sub) (T := "bool") (U := "int") (by decide) (typeIs_bool' s b) (fun s' => typeIs_int s' i t) F.fills_bool_sub F.fills_int_sub PySem.isSubtype_int_bool F.slot_bool_sub F.slot_int_rsub F.entry_int_sub (F.args_int_sub_2 _ _)
    (g_bi_sub b i t) trivial h
theorem neg_b {b : Bool} {Q : Value → Shared → Prop} (h : Q (.int (-b2i b) s.toks) { s with toks := s.toks + 1 }) : wpAny (model prog w) A (unaryOp .USub (.bool b)) Q E s :=
  unaryOp_gives (op := .USub) (typeIs_bool' s b) rfl F.slot_bool_neg F.entry_int_neg (F.args_int_neg_1 _) (g_b_neg b) h
end
/-- a whole number or a truth, as a number -/
def numT : T → Option Int
  | .int i => some i
  | .bl b => some (b2i b)
  | _ => none
def fAddN : Q2 := fun x y G Q => match x, y with
  | .bl b, .int j => Q (.int (b2i b + j)) G
  | x, y => fAdd x y G Q
def fSubN : Q2 := fun x y G Q => match x, y with
  | .bl b, .int j => Q (.int (b2i b - j)) G
  | x, y => fSub x y G Q
def fNegN : Q1 := fun x G Q => match x with | .int i => Q (.int (-i)) G | .bl b => Q (.int (-b2i b)) G | _ => False
section
variable {X : Cx}
theorem o_addN : OpR X (binaryOp .Add) (c2 X.K fAddN) := by
  intro pins s σ H v w u u' KQ I rv rw' h2
  obtain ⟨x, y, G, Q, hx, hy, ha, hf, hk⟩ := h2
  unfold fAddN at hf
  split at hf
  · cases hx; cases hy
    cases rv
    obtain ⟨t, rfl⟩ := rw'
    exact add_bi ⟨.int _, H, I.tok _, ⟨_, rfl⟩, hk _ H (.int _) G (Tups.refl H) ha rfl hf⟩
  · exact o_add pins s σ H v w u u' KQ I rv rw' ⟨_, _, G, Q, hx, hy, ha, hf, hk⟩
theorem o_subN : OpR X (binaryOp .Sub) (c2 X.K fSubN) := by
  intro pins s σ H v w u u' KQ I rv rw' h2
  obtain ⟨x, y, G, Q, hx, hy, ha, hf, hk⟩ := h2
  unfold fSubN at hf
  split at hf
  · cases hx; cases hy
    cases rv
    obtain ⟨t, rfl⟩ := rw'
    exact sub_bi ⟨.int _, H, I.tok _, ⟨_, rfl⟩, hk _ H (.int _) G (Tups.refl H) ha rfl hf⟩
  · exact o_sub pins s σ H v w u u' KQ I rv rw' ⟨_, _, G, Q, hx, hy, ha, hf, hk⟩
theorem un_negN : UnR X (unaryOp .USub) (c1 X.K fNegN) := by
  intro pins s σ H v u KQ I rv h
  obtain ⟨x, G, Q, hx, ha, hf, hk⟩ := h
  unfold fNegN at hf
  split at hf
  · cases hx
    obtain ⟨t, rfl⟩ := rv
    exact neg_int ⟨.int _, H, I.tok _, ⟨_, rfl⟩, hk _ H (.int _) G (Tups.refl H) ha rfl hf⟩
  · cases hx
    cases rv
    exact neg_b ⟨.int _, H, I.tok _, ⟨_, rfl⟩, hk _ H (.int _) G (Tups.refl H) ha rfl hf⟩
  · exact hf.elim
theorem e_negN {a : Expr} {qe : QE} {pos : Pos} (ha : PE X a (cE X.K qe)) : PE X (.UnaryOp .USub a pos) (cE X.K (qUn fNegN qe)) := PE.wk (pe_un un_negN ha) fun σ H KQ h => by
  obtain ⟨ρ, G, Q, e, a, q, f⟩ := h
  refine ⟨ρ, G, _, e, a, q, fun v H1 t G1 k1 a1 r1 q1 => ?_⟩
  exact ⟨t, G1, Q, r1, a1, q1, f.from k1⟩
/-! ### str(x) -/
def fStr : QC := fun ts G Q => match ts with
  | [.int i] => i.natAbs.log2 < 1920 ∧ Q (.str (toString i)) G
  | [.bl b] => Q (.str (if b then "True" else "False")) G
  | [.str x] => Q (.str x) G
  | _ => False
theorem b_str : CallR X (.type "str") (cC X.K fStr) := by
  intro pins s σ H vs us KQ I r h
  obtain ⟨ts, G, Q, hr, ha, hf, hk⟩ := h
  unfold fStr at hf
  split at hf
  · obtain ⟨v, rfl, h1⟩ := rpl1 hr
    cases h1
    exact call_str_int pins s σ H _ us KQ I r ⟨_, rfl, hf.1, hk _ H (.str _) G (Tups.refl H) ha rfl hf.2⟩
  · obtain ⟨v, rfl, h1⟩ := rpl1 hr
    cases h1
    obtain ⟨u, rfl, ru⟩ := vals1 r
    cases ru
    exact PySem.P.str_of_bool ⟨.str _, H, I.tok _, ⟨_, rfl⟩, hk _ H (.str _) G (Tups.refl H) ha rfl hf⟩
  · obtain ⟨v, rfl, h1⟩ := rpl1 hr
    cases h1
    obtain ⟨u, rfl, t, rfl⟩ := vals1 r
    exact PySem.P.str_of_str ⟨.str _, H, I, ⟨_, rfl⟩, hk _ H (.str _) G (Tups.refl H) ha rfl hf⟩
  · exact hf.elim
/-! ### s.upper() -/
def qUpper (qo : QE) : QE := fun ρ G Q => qo ρ G fun x G1 => match x with | .str a => a.length ≤ 5592405 ∧ Q (.str (Txt.upper a)) G1 | _ => False
theorem e_upper {o : Expr} {qo : QE} {apos pos : Pos} (ho : PE X o (cE X.K qo)) (hbase : attributeBase o "upper" X.env (eval o X.env) = eval o X.env := by rfl) (hline : (apos.endLine == pos.line) = true := by rfl) :
    PE X (.Call (.Attribute o "upper" apos) [] [] pos) (cE X.K (qUpper qo)) := PE.wk (pe_upper ho hbase hline) fun σ H KQ h => by
  obtain ⟨ρ, G, Q, e, a, q, f⟩ := h
  refine ⟨ρ, G, _, e, a, q, fun v H1 t G1 k1 a1 r1 q1 => ?_⟩
  split at q1
  · cases r1
    exact ⟨⟨_, rfl⟩, _, rfl, rfl, q1.1, f _ H1 (.str _) G1 k1 a1 rfl q1.2⟩
  · exact q1.elim
/-! ### == of lists of unlike lengths asks nothing of the items -/
def fEqL (neg : Bool) : Q2 := fun x y G Q => match x, y with
  | .ref a, .ref b => ∃ xs ys, G a = some (.lst xs) ∧ G b = some (.lst ys) ∧ (xs.length = ys.length → eqOks xs = true ∧ eqOks ys = true) ∧ Q (.bl (neg != teqs xs ys)) G
  | x, y => fEq neg x y G Q
theorem teqs_len : ∀ {xs ys : List T}, xs.length ≠ ys.length → teqs xs ys = false
  | [], [], h => absurd rfl h
  | [], _ :: _, _ => rfl
  | _ :: _, [], _ => rfl
  | x :: xs, y :: ys, h => by
    show (teq x y && teqs xs ys) = false
    rw [teqs_len (xs := xs) (ys := ys) (fun e => h (by simp [e])), Bool.and_false]
theorem o_eqL (hu : X.A.units + 64 < cLine) : OpR X (compareOp .Eq) (c2 X.K (fEqL false)) := by
  intro pins s σ H v w u u' KQ I rv rw' h2
  obtain ⟨x, y, G, Q, hx, hy, ha, hf, hk⟩ := h2
  unfold fEqL at hf
  split at hf
  · obtain ⟨xs, ys, g1, g2, hl, q⟩ := hf
    by_cases e : xs.length = ys.length
    · exact o_eq hu pins s σ H v w u u' KQ I rv rw' ⟨_, _, G, Q, hx, hy, ha, ⟨xs, ys, g1, g2, (hl e).1, (hl e).2, q⟩, hk⟩
    · rw [teqs_len e] at q
      cases hx; cases hy
      obtain ⟨vs, hp, r⟩ := ha _ _ g1
      obtain ⟨ws, hp', r'⟩ := ha _ _ g2
      cases rv; cases rw'
      obtain ⟨its, r1, p1, _⟩ := I.list (SqL.of hp)
      obtain ⟨its2, r2, p2, _⟩ := I.list (SqL.of hp')
      refine SeqAt.eq_list_lengthsAt p1.isList p2.isList ?_ (by omega) ⟨.bl false, H, I, rfl, hk _ H (.bl _) G (Tups.refl H) ha rfl q⟩
      have e1 : its.toArray.size = xs.length := by rw [List.size_toArray, ← r1.length, r.length]
      have e2 : its2.toArray.size = ys.length := by rw [List.size_toArray, ← r2.length, r'.length]
      rw [e1, e2]
      simpa using e
  · exact o_eq hu pins s σ H v w u u' KQ I rv rw' ⟨_, _, G, Q, hx, hy, ha, hf, hk⟩
theorem o_neL (hu : X.A.units + 64 < cLine) : OpR X (compareOp .NotEq) (c2 X.K (fEqL true)) := by
  intro pins s σ H v w u u' KQ I rv rw' h2
  obtain ⟨x, y, G, Q, hx, hy, ha, hf, hk⟩ := h2
  unfold fEqL at hf
  split at hf
  · obtain ⟨xs, ys, g1, g2, hl, q⟩ := hf
    by_cases e : xs.length = ys.length
    · exact o_ne hu pins s σ H v w u u' KQ I rv rw' ⟨_, _, G, Q, hx, hy, ha, ⟨xs, ys, g1, g2, (hl e).1, (hl e).2, q⟩, hk⟩
    · rw [teqs_len e] at q
      cases hx; cases hy
      obtain ⟨vs, hp, r⟩ := ha _ _ g1
      obtain ⟨ws, hp', r'⟩ := ha _ _ g2
      cases rv; cases rw'
      obtain ⟨its, r1, p1, _⟩ := I.list (SqL.of hp)
      obtain ⟨its2, r2, p2, _⟩ := I.list (SqL.of hp')
      refine SeqAt.RcNeAt.lists_lengths p1.isList p2.isList ?_ (by omega) X.prog X.w _ _ ⟨.bl true, H, I, rfl, hk _ H (.bl _) G (Tups.refl H) ha rfl q⟩
      have e1 : its.toArray.size = xs.length := by rw [List.size_toArray, ← r1.length, r.length]
      have e2 : its2.toArray.size = ys.length := by rw [List.size_toArray, ← r2.length, r'.length]
      rw [e1, e2]
      simpa using e
  · exact o_ne hu pins s σ H v w u u' KQ I rv rw' ⟨_, _, G, Q, hx, hy, ha, hf, hk⟩
/-! ### (a, b, ..) = a list -/
def gUl (n : Nat) (t : QGs) : QG := fun x ρ G Q => match x with | .ref a => ∃ ts, G a = some (.lst ts) ∧ lenIs n ts = true ∧ t ts ρ G Q | _ => False
theorem g_unl {es : List Expr} {own : List Nat} {qgs : QGs} {pos : Pos} {kk : Nat} {n : Nat} (hc : X.calm = true) (h : PGs X es (cGs X.K own qgs)) (hn : (assignEach es X.env).length = n := by rfl) (hst : (assignEach es X.env).findIdx? (·.1) = none := by rfl) :
    PG X (.Tuple es kk pos) (cG X.K own (gUl n qgs)) := PG.wk (pg_unl hc h hn hst) fun v σ H KQ h => by
  obtain ⟨t, ρ, G, Q, r, e, a, q, f⟩ := h
  unfold gUl at q
  split at q
  · obtain ⟨ts, hg, hl, q⟩ := q
    cases r
    obtain ⟨vs, hp, r⟩ := a _ _ hg
    exact ⟨_, vs, rfl, SqL.of hp, by rw [r.length]; exact lenIs_len hl, _, ρ, G, Q, r, e, a, q, f⟩
  · exact q.elim
end
end Lw

set_option Elab.async false
set_option linter.all false
set_option maxRecDepth 100000
set_option maxHeartbeats 4000000
namespace Law
open PySem PySem.Spec PyProof.Rows L2 Lw
def topS (i : Nat) : Stmt := PySem.Challenge.pw_mouldkin_k01_rules_sizes_lines_told.main.body.getD i (.Pass ⟨0, 0, 0, 0⟩)
structure Txt (K : PySem.W.Frag) (mg : Str → Option Value) : Prop where
  n_bool : mg "bool" = none
  n_int : mg "int" = none
  n_isinstance : mg "isinstance" = none
  n_len : mg "len" = none
  n_tuple : mg "tuple" = none
  c_MOST_LIFE : ∃ t, mg "MOST_LIFE" = some (.int 6 t)
  c_MOST_PART : ∃ t, mg "MOST_PART" = some (.int 20 t)
  c_MOST_WEAR : ∃ t, mg "MOST_WEAR" = some (.int 1000 t)
  c_MOST_BOTTOM : ∃ t, mg "MOST_BOTTOM" = some (.int 1000 t)
  c_MOST_TOP : ∃ t, mg "MOST_TOP" = some (.int 1000000 t)
  c_MOST_LINE : ∃ t, mg "MOST_LINE" = some (.int 40 t)
  n_all : mg "all" = none
  n_abs : mg "abs" = none
  n_list : mg "list" = none
  n_str : mg "str" = none
  n_range : mg "range" = none
  n_min : mg "min" = none
/-- a fraction -/
def fr (p : Int × Int) : T := .tup [.int p.1, .int p.2]
/-- in lowest terms -/
def low (t b : Int) : Int × Int := (t / (Int.gcd t b : Int), b / (Int.gcd t b : Int))
theorem gcd_step {x y : Int} (hx : 0 ≤ x) (hy : 0 < y) : Int.gcd y (x % y) = Int.gcd x y := by
  rw [Int.emod_def, Int.gcd_sub_mul_left_right, Int.gcd_comm]
theorem mulOk {i j : Int} (a b : Nat) (h1 : i.natAbs < 2 ^ a) (h2 : j.natAbs < 2 ^ b) (h : a + b ≤ 900000) : MulOk i j := ⟨a, b, h1, h2, h⟩
theorem divOk {j : Int} (b : Nat) (h : 0 < j) (h1 : j.natAbs < 2 ^ b) (h2 : b ≤ 8999) : DivOk j := ⟨h, b, h1, h2⟩
theorem natAbs_ediv_le {t : Int} {g : Nat} (h : 0 ≤ t) : (t / (g : Int)).natAbs ≤ t.natAbs := by
  have h1 : 0 ≤ t / (g : Int) := Int.ediv_nonneg h (Int.natCast_nonneg g)
  have h2 : t / (g : Int) ≤ t := Int.ediv_le_self _ h
  omega
/-- in bounds: top from nought on, bottom above, both below 2 ^ n -/
structure Fb (n : Nat) (p : Int × Int) : Prop where
  t0 : 0 ≤ p.1
  b0 : 0 < p.2
  t1 : p.1.natAbs < 2 ^ n
  b1 : p.2.natAbs < 2 ^ n
theorem low_b0 {t b : Int} (hb : 0 < b) : 0 < b / (Int.gcd t b : Int) := by
  have hp : 0 < Int.gcd t b := Int.gcd_pos_of_ne_zero_right t (by omega)
  exact Int.ediv_pos_of_pos_of_dvd hb (Int.natCast_nonneg _) (Int.gcd_dvd_right t b)
theorem Fb.low {n : Nat} {t b : Int} (h : Fb n (t, b)) : Fb n (low t b) :=
  ⟨Int.ediv_nonneg h.t0 (Int.natCast_nonneg _), low_b0 h.b0, Nat.lt_of_le_of_lt (natAbs_ediv_le h.t0) h.t1, Nat.lt_of_le_of_lt (natAbs_ediv_le (Int.le_of_lt h.b0)) h.b1⟩
theorem Fb.mono {n m : Nat} {p : Int × Int} (h : Fb n p) (k : n ≤ m) : Fb m p :=
  ⟨h.t0, h.b0, Nat.lt_of_lt_of_le h.t1 (Nat.pow_le_pow_right (by decide) k), Nat.lt_of_lt_of_le h.b1 (Nat.pow_le_pow_right (by decide) k)⟩
/-- rules: shrink, wear, life -/
abbrev Ru := (Int × Int) × (Int × Int) × Int
def ruT (r : Ru) : T := .tup [fr r.1, fr r.2.1, .int r.2.2]
structure RuOk (r : Ru) : Prop where
  s0 : 0 < r.1.1
  s1 : r.1.1 < r.1.2
  s2 : r.1.2 ≤ 20
  sg : Int.gcd r.1.1 r.1.2 = 1
  w0 : 0 ≤ r.2.1.1
  w1 : r.2.1.1 ≤ 1000
  w2 : 0 < r.2.1.2
  w3 : r.2.1.2 ≤ 20
  wg : Int.gcd r.2.1.1 r.2.1.2 = 1
  l0 : 1 ≤ r.2.2
  l1 : r.2.2 ≤ 6
structure SzOk (s : Int × Int) : Prop where
  t0 : 0 < s.1
  t1 : s.1 ≤ 1000000
  b0 : 0 < s.2
  b1 : s.2 ≤ 1000
  g : Int.gcd s.1 s.2 = 1
/-- a casting's size -/
def cast (r : Ru) (s : Int × Int) (n : Int) : Int × Int := low ((s.1 * r.2.1.2 + n * r.2.1.1 * s.2) * r.1.1) (s.2 * r.2.1.2 * r.1.2)
theorem mul_lt_pow {i j : Int} {a b : Nat} (h1 : i.natAbs < 2 ^ a) (h2 : j.natAbs < 2 ^ b) : (i * j).natAbs < 2 ^ (a + b) := wide_lt h1 h2
theorem small_pow {i : Int} (h0 : 0 ≤ i) (k : Nat) (h : i < 2 ^ k) : i.natAbs < 2 ^ k := by
  have e : ((2 ^ k : Nat) : Int) = (2 : Int) ^ k := by norm_cast
  omega
/-- what cast multiplies, in bounds -/
structure CastB (r : Ru) (s : Int × Int) (n : Int) (k : Nat) : Prop where
  a1 : (s.1 * r.2.1.2).natAbs < 2 ^ (k + 5)
  a2 : (n * r.2.1.1).natAbs < 2 ^ 13
  a3 : (n * r.2.1.1 * s.2).natAbs < 2 ^ (k + 13)
  a4 : (s.1 * r.2.1.2 + n * r.2.1.1 * s.2).natAbs < 2 ^ (k + 14)
  a5 : ((s.1 * r.2.1.2 + n * r.2.1.1 * s.2) * r.1.1).natAbs < 2 ^ (k + 19)
  b1 : (s.2 * r.2.1.2).natAbs < 2 ^ (k + 5)
  b2 : (s.2 * r.2.1.2 * r.1.2).natAbs < 2 ^ (k + 10)
  t0 : 0 ≤ (s.1 * r.2.1.2 + n * r.2.1.1 * s.2) * r.1.1
  b0 : 0 < s.2 * r.2.1.2 * r.1.2
theorem castB {r : Ru} {s : Int × Int} {n : Int} {k : Nat} (hr : RuOk r) (hs : Fb k s) (h0 : 0 ≤ n) (h1 : n ≤ 5) : CastB r s n k := by
  have w2 : r.2.1.2.natAbs < 2 ^ 5 := by have := hr.w2; have := hr.w3; have : (2 : Nat) ^ 5 = 32 := rfl; omega
  have w1 : r.2.1.1.natAbs < 2 ^ 10 := by have := hr.w0; have := hr.w1; have : (2 : Nat) ^ 10 = 1024 := rfl; omega
  have s1 : r.1.1.natAbs < 2 ^ 5 := by have := hr.s0; have := hr.s1; have := hr.s2; have : (2 : Nat) ^ 5 = 32 := rfl; omega
  have s2 : r.1.2.natAbs < 2 ^ 5 := by have := hr.s0; have := hr.s1; have := hr.s2; have : (2 : Nat) ^ 5 = 32 := rfl; omega
  have n1 : n.natAbs < 2 ^ 3 := by have : (2 : Nat) ^ 3 = 8 := rfl; omega
  have a1 := mul_lt_pow hs.t1 w2
  have a2 := mul_lt_pow n1 w1
  have a3 := mul_lt_pow a2 hs.b1
  have b1 := mul_lt_pow hs.b1 w2
  have b2 := mul_lt_pow b1 s2
  have p0 : 0 ≤ s.1 * r.2.1.2 := Int.mul_nonneg hs.t0 (Int.le_of_lt hr.w2)
  have p1 : 0 ≤ n * r.2.1.1 := Int.mul_nonneg h0 hr.w0
  have p2 : 0 ≤ n * r.2.1.1 * s.2 := Int.mul_nonneg p1 (Int.le_of_lt hs.b0)
  have e3 : 3 + 10 + k = k + 13 := by omega
  rw [e3] at a3
  have a4 : (s.1 * r.2.1.2 + n * r.2.1.1 * s.2).natAbs < 2 ^ (k + 14) := by
    have q1 : 2 ^ (k + 5) ≤ 2 ^ (k + 13) := Nat.pow_le_pow_right (by decide) (by omega)
    have q2 : 2 ^ (k + 14) = 2 ^ (k + 13) * 2 := Nat.pow_succ 2 (k + 13)
    omega
  have a5 := mul_lt_pow a4 s1
  exact ⟨a1, a2, a3, a4, a5, b1, b2, Int.mul_nonneg (by omega) (Int.le_of_lt hr.s0), Int.mul_pos (Int.mul_pos hs.b0 hr.w2) (Int.lt_trans hr.s0 hr.s1)⟩
theorem cast_b {r : Ru} {s : Int × Int} {n : Int} {k : Nat} (hr : RuOk r) (hs : Fb k s) (h0 : 0 ≤ n) (h1 : n ≤ 5) : Fb (k + 19) (cast r s n) := by
  have c := castB hr hs h0 h1
  exact Fb.low ⟨c.t0, c.b0, c.a5, Nat.lt_of_lt_of_le c.b2 (Nat.pow_le_pow_right (by decide) (by omega))⟩
/-! ### lists -/
theorem map_at {α : Type} {f : α → T} {l : List α} {i : Nat} {t : T} (h : (l.map f)[i]? = some t) : ∃ n, l[i]? = some n ∧ t = f n := by
  rw [List.getElem?_map] at h
  cases e : l[i]? with
  | none => rw [e] at h; cases h
  | some n => rw [e] at h; exact ⟨n, rfl, (Option.some.inj h).symm⟩
theorem take_one {α : Type} {l : List α} {i : Nat} {x : α} (h : l[i]? = some x) : l.take (i + 1) = l.take i ++ [x] := by
  rw [List.take_add_one, h]; rfl
theorem foldl_take {α β : Type} (f : β → α → β) (s : β) {l : List α} {i : Nat} {x : α} (h : l[i]? = some x) : (l.take (i + 1)).foldl f s = f ((l.take i).foldl f s) x := by
  rw [take_one h, List.foldl_append]; rfl
theorem rngT_at {n i : Nat} {t : T} (h : (rngT n)[i]? = some t) : i < n ∧ t = .int i := by
  unfold rngT at h
  obtain ⟨m, hm, e⟩ := map_at h
  have hi : i < n := by
    have := (List.getElem?_eq_some_iff.mp hm).1
    rw [List.length_range] at this; exact this
  rw [List.getElem?_range hi] at hm
  cases hm
  exact ⟨hi, e⟩
theorem rngT_len {n : Nat} : (rngT n).length = n := by unfold rngT; rw [List.length_map, List.length_range]
theorem flat_rep {α : Type} (x : α) : ∀ n : Nat, (List.replicate n [x]).flatten = List.replicate n x
  | 0 => rfl
  | n + 1 => by rw [List.replicate_succ, List.flatten_cons, flat_rep x n, List.replicate_succ]; rfl
abbrev lnT (l : List Int) : T := .tup (l.map T.int)
/-! ### the bag of draws -/
structure BOk (c1 c2 : Int) : Prop where
  h1 : 0 ≤ c1
  h2 : 0 ≤ c2
  h3 : c2 < 2147483647
abbrev bagO (c1 c2 : Int) : GO := .lst [.int c1, .int c2]
def Bag (G : Gp) (b : Addr) : Prop := ∃ c1 c2, G b = some (bagO c1 c2) ∧ BOk c1 c2
def BagTo (b : Addr) (G G' : Gp) : Prop := ∃ c1 c2, BOk c1 c2 ∧ G' = gput G b (bagO c1 c2)
/-- from G0 the bag alone was changed, new things were made -/
def BT (b : Addr) (G0 G : Gp) : Prop := ∃ c1 c2, BOk c1 c2 ∧ Sub (gput G0 b (bagO c1 c2)) G
theorem BT.start {b : Addr} {G : Gp} (h : Bag G b) : BT b G G := by
  obtain ⟨c1, c2, e, o⟩ := h
  exact ⟨c1, c2, o, by rw [gput_id e]; exact Sub.refl G⟩
theorem BT.bag {b : Addr} {G0 G : Gp} (h : BT b G0 G) : Bag G b := by
  obtain ⟨c1, c2, o, s⟩ := h
  exact ⟨c1, c2, s b _ gput_same, o⟩
theorem BT.to {b : Addr} {G0 G G' : Gp} (h : BT b G0 G) (t : BagTo b G G') : BT b G0 G' := by
  obtain ⟨c1, c2, o, s⟩ := h
  obtain ⟨d1, d2, o', rfl⟩ := t
  refine ⟨d1, d2, o', fun a u e => ?_⟩
  by_cases ha : a = b
  · subst ha; rw [gput_same] at e ⊢; exact e
  · rw [gput_ne ha] at e ⊢
    exact s a u (by rw [gput_ne ha]; exact e)
theorem BT.new {b p : Addr} {G0 G : Gp} {o : GO} (h : BT b G0 G) (hp : G p = none) : BT b G0 (gput G p o) := by
  obtain ⟨c1, c2, ok, s⟩ := h
  exact ⟨c1, c2, ok, s.new hp⟩
theorem BT.get {b a : Addr} {G0 G : Gp} {o : GO} (h : BT b G0 G) (ha : a ≠ b) (e : G0 a = some o) : G a = some o := by
  obtain ⟨c1, c2, ok, s⟩ := h
  exact s a o (by rw [gput_ne ha]; exact e)
theorem BT.ret {b : Addr} {G0 G : Gp} {Q : TK} {t : T} (h : BT b G0 G) (k : ∀ G', BagTo b G0 G' → Q t G') : Ret Q t G := by
  obtain ⟨c1, c2, o, s⟩ := h
  exact ⟨_, s, k _ ⟨c1, c2, o, rfl⟩⟩
theorem BagTo.bt {b : Addr} {G G' : Gp} (hb : Bag G b) (t : BagTo b G G') : BT b G G' := (BT.start hb).to t
theorem bag_new {b : Addr} {G : Gp} (h : Bag G b) {p : Addr} (hp : G p = none) : b ≠ p := by
  obtain ⟨c1, c2, e, _⟩ := h
  exact gne e hp
theorem BagTo.ne {a b : Addr} {G G' : Gp} (t : BagTo b G G') (h : a ≠ b) : G' a = G a := by
  obtain ⟨c1, c2, _, rfl⟩ := t
  exact gput_ne h
/-! ### lowest terms -/
theorem low_le {t b : Int} (h0 : 0 ≤ t) (hb : 0 < b) : 0 ≤ (low t b).1 ∧ (low t b).1 ≤ t ∧ 0 < (low t b).2 ∧ (low t b).2 ≤ b ∧ Int.gcd (low t b).1 (low t b).2 = 1 := by
  have hp : 0 < Int.gcd t b := Int.gcd_pos_of_ne_zero_right t (by omega)
  refine ⟨Int.ediv_nonneg h0 (Int.natCast_nonneg _), Int.ediv_le_self _ h0, low_b0 hb, Int.ediv_le_self _ (Int.le_of_lt hb), ?_⟩
  show Int.gcd (t / _) (b / _) = 1
  rw [Int.gcd_ediv (Int.gcd_dvd_left t b) (Int.gcd_dvd_right t b), Int.natAbs_natCast, Nat.div_self hp]
theorem low_mul {t b : Int} : (low t b).1 * (Int.gcd t b : Int) = t ∧ (low t b).2 * (Int.gcd t b : Int) = b :=
  ⟨Int.ediv_mul_cancel (Int.gcd_dvd_left t b), Int.ediv_mul_cancel (Int.gcd_dvd_right t b)⟩
theorem low_pos {t b : Int} (h0 : 0 < t) (hb : 0 < b) : 0 < (low t b).1 := by
  obtain ⟨h1, _⟩ := low_le (Int.le_of_lt h0) hb
  rcases Int.lt_or_eq_of_le h1 with h | h
  · exact h
  · have := (low_mul (t := t) (b := b)).1
    rw [← h, Int.zero_mul] at this
    omega
theorem low_lt {t b : Int} (h0 : 0 ≤ t) (hb : 0 < b) (h : t < b) : (low t b).1 < (low t b).2 := by
  have hp : 0 < Int.gcd t b := Int.gcd_pos_of_ne_zero_right t (by omega)
  obtain ⟨e1, e2⟩ := low_mul (t := t) (b := b)
  have : (low t b).1 * (Int.gcd t b : Int) < (low t b).2 * (Int.gcd t b : Int) := by rw [e1, e2]; exact h
  exact Int.lt_of_mul_lt_mul_right this (by omega)
theorem low_cross {t b : Int} : (low t b).1 * b = t * (low t b).2 := by
  obtain ⟨e1, e2⟩ := low_mul (t := t) (b := b)
  generalize (low t b).1 = x at *
  generalize (low t b).2 = y at *
  generalize (Int.gcd t b : Int) = g at *
  subst e1 e2
  grind
theorem dvd_cop {a b d : Int} (h : b ∣ a * d) (g : Int.gcd a b = 1) : b ∣ d := by
  have h' : b.natAbs ∣ a.natAbs * d.natAbs := by
    rw [← Int.natAbs_mul]
    exact Int.natAbs_dvd_natAbs.mpr h
  have c : Nat.Coprime b.natAbs a.natAbs := by
    show Nat.gcd b.natAbs a.natAbs = 1
    rw [Nat.gcd_comm]
    exact g
  exact Int.natAbs_dvd_natAbs.mp (c.dvd_of_dvd_mul_left h')
/-- a fraction in lowest terms is the only one of its value -/
theorem red_eq {a b c d : Int} (hb : 0 < b) (hd : 0 < d) (g1 : Int.gcd a b = 1) (g2 : Int.gcd c d = 1) (h : a * d = c * b) : a = c ∧ b = d := by
  have h1 : b ∣ d := by
    have : b ∣ a * d := ⟨c, by rw [h, Int.mul_comm]⟩
    exact dvd_cop this g1
  have h2 : d ∣ b := by
    have : d ∣ c * b := ⟨a, by rw [← h, Int.mul_comm]⟩
    exact dvd_cop this g2
  have e : b = d := Int.dvd_antisymm (Int.le_of_lt hb) (Int.le_of_lt hd) h1 h2
  subst e
  exact ⟨Int.eq_of_mul_eq_mul_right (by omega) h, rfl⟩
theorem low_eq {a b c d : Int} (ha : 0 ≤ a) (hc : 0 ≤ c) (hb : 0 < b) (hd : 0 < d) (h : a * d = c * b) : low a b = low c d := by
  obtain ⟨_, _, p1, _, g1⟩ := low_le ha hb
  obtain ⟨_, _, p2, _, g2⟩ := low_le hc hd
  have e1 := low_cross (t := a) (b := b)
  have e2 := low_cross (t := c) (b := d)
  have : (low a b).1 * (low c d).2 = (low c d).1 * (low a b).2 := by
    have hz : (low a b).1 * (low c d).2 * (b * d) = (low c d).1 * (low a b).2 * (b * d) := by
      generalize (low a b).1 = x1 at *
      generalize (low a b).2 = x2 at *
      generalize (low c d).1 = y1 at *
      generalize (low c d).2 = y2 at *
      have q1 : x1 * y2 * (b * d) = (x1 * b) * y2 * d := by grind
      have q2 : y1 * x2 * (b * d) = (y1 * d) * x2 * b := by grind
      rw [q1, q2, e1, e2]
      have q3 : a * x2 * y2 * d = (a * d) * x2 * y2 := by grind
      have q4 : c * y2 * x2 * b = (c * b) * x2 * y2 := by grind
      rw [q3, q4, h]
    exact Int.eq_of_mul_eq_mul_right (by have := Int.mul_pos hb hd; omega) hz
  obtain ⟨q1, q2⟩ := red_eq p1 p2 g1 g2 this
  exact Prod.ext q1 q2
theorem low_red {t b : Int} (g : Int.gcd t b = 1) : low t b = (t, b) := by
  unfold low
  rw [g]
  simp
/-! ### things of any kind -/
mutual
def AnyT (G : Gp) : T → Prop
  | .tup ts => AnyTs G ts
  | .ref a => ∃ xs, G a = some (.lst xs)
  | .ty _ => False
  | .scr _ => False
  | _ => True
def AnyTs (G : Gp) : List T → Prop
  | [] => True
  | t :: ts => AnyT G t ∧ AnyTs G ts
end
def isWhole : T → Bool
  | .int _ => true
  | _ => false
def isWithin (x : T) (a b : Int) : Bool := match x with
  | .int i => decide (a ≤ i) && decide (i ≤ b)
  | _ => false
def isPart (x : T) (mt mb : Int) : Bool := match x with
  | .tup [a, b] => isWithin a 0 mt && isWithin b 1 mb && (match a, b with | .int t, .int c => decide (low t c = (t, c)) | _, _ => false)
  | _ => false
def below : T → Bool
  | .tup [.int t, .int c] => decide (0 < t) && decide (t < c)
  | _ => false
def areRules : T → Bool
  | .tup [a, b, c] => isPart a 20 20 && below a && isPart b 1000 20 && isWithin c 1 6
  | _ => false
def isSize (x : T) : Bool := isPart x 1000000 1000 && (match x with | .tup (.int t :: _) => decide (0 < t) | _ => false)
theorem ite_bl {c : Bool} {A B : Prop} (h1 : c = true → A) (h2 : c = false → B) : (c = true → A) ∧ (c = false → B) := ⟨h1, h2⟩
theorem isPart_fr {t c mt mb : Int} (h : isPart (.tup [.int t, .int c]) mt mb = true) : 0 ≤ t ∧ t ≤ mt ∧ 1 ≤ c ∧ c ≤ mb ∧ low t c = (t, c) := by
  simp only [isPart, isWithin, Bool.and_eq_true, decide_eq_true_eq] at h
  exact ⟨h.1.1.1, h.1.1.2, h.1.2.1, h.1.2.2, h.2⟩
/-! ### fractions as rationals -/
def rv (p : Int × Int) : Rat := (p.1 : Rat) / (p.2 : Rat)
theorem cast_pos {a : Int} (h : 0 < a) : (0 : Rat) < (a : Rat) := by exact_mod_cast h
theorem div_lt {a b c d : Int} (hb : 0 < b) (hd : 0 < d) : a * d < c * b ↔ (a : Rat) / (b : Rat) < (c : Rat) / (d : Rat) := by
  have hb' := cast_pos hb
  have hd' := cast_pos hd
  rw [Rat.div_lt_iff hb']
  have e : (c : Rat) / d * b = (c * b : Rat) / d := by grind
  rw [e, Rat.lt_div_iff hd']
  exact_mod_cast Iff.rfl
theorem rv_lt {p q : Int × Int} (hp : 0 < p.2) (hq : 0 < q.2) : p.1 * q.2 < q.1 * p.2 ↔ rv p < rv q := div_lt hp hq
theorem rv_low {t b : Int} (hb : 0 < b) : rv (low t b) = (t : Rat) / (b : Rat) := by
  have h1 := low_cross (t := t) (b := b)
  have h2 : 0 < (low t b).2 := low_b0 hb
  have hb' := cast_pos hb
  have h2' := cast_pos h2
  have h3 : ((low t b).1 : Rat) * (b : Rat) = (t : Rat) * ((low t b).2 : Rat) := by exact_mod_cast h1
  unfold rv
  generalize ((low t b).1 : Rat) = x at *
  generalize ((low t b).2 : Rat) = y at *
  have hy : y ≠ 0 := by grind
  have hb2 : (b : Rat) ≠ 0 := by grind
  grind
theorem rv_inj {p q : Int × Int} (hp : 0 < p.2) (hq : 0 < q.2) (g1 : Int.gcd p.1 p.2 = 1) (g2 : Int.gcd q.1 q.2 = 1) (h : rv p = rv q) : p = q := by
  have h1 := cast_pos hp
  have h2 := cast_pos hq
  have e : (p.1 : Rat) * (q.2 : Rat) = (q.1 : Rat) * (p.2 : Rat) := by
    unfold rv at h
    grind
  have e' : p.1 * q.2 = q.1 * p.2 := by exact_mod_cast e
  obtain ⟨a, b⟩ := red_eq hp hq g1 g2 e'
  exact Prod.ext a b
theorem rv_cast {r : Ru} {s : Int × Int} {n : Int} (hr : RuOk r) (hs : 0 < s.2) : rv (cast r s n) = (rv s + (n : Rat) * rv r.2.1) * rv r.1 := by
  have hd : 0 < s.2 * r.2.1.2 * r.1.2 := Int.mul_pos (Int.mul_pos hs hr.w2) (Int.lt_trans hr.s0 hr.s1)
  unfold cast
  rw [rv_low hd]
  have a := cast_pos hs
  have b := cast_pos hr.w2
  have c := cast_pos (Int.lt_trans hr.s0 hr.s1)
  unfold rv
  simp only [Rat.intCast_mul, Rat.intCast_add]
  generalize (s.2 : Rat) = x at *
  generalize (r.2.1.2 : Rat) = y at *
  generalize (r.1.2 : Rat) = z at *
  have hx : x ≠ 0 := by grind
  have hy : y ≠ 0 := by grind
  have hz : z ≠ 0 := by grind
  grind
/-- in lowest terms, bottom from 1 on -/
structure Red (p : Int × Int) : Prop where
  b0 : 0 < p.2
  g : Int.gcd p.1 p.2 = 1
theorem SzOk.red {s : Int × Int} (h : SzOk s) : Red s := ⟨h.b0, h.g⟩
theorem red_low {t b : Int} (h0 : 0 ≤ t) (hb : 0 < b) : Red (low t b) := ⟨(low_le h0 hb).2.2.1, (low_le h0 hb).2.2.2.2⟩
theorem Red.inj {p q : Int × Int} (h : Red p) (k : Red q) (e : rv p = rv q) : p = q := rv_inj h.b0 k.b0 h.g k.g e
theorem SzOk.fb {s : Int × Int} (hs : SzOk s) : Fb 20 s :=
  ⟨Int.le_of_lt hs.t0, hs.b0, by have := hs.t0; have := hs.t1; have : (2 : Nat) ^ 20 = 1048576 := rfl; omega, by have := hs.b0; have := hs.b1; have : (2 : Nat) ^ 20 = 1048576 := rfl; omega⟩
/-- the piece of a line -/
def pc (r : Ru) (s : Int × Int) (l : List Int) : Int × Int := l.foldl (cast r) s
theorem pc_snoc {r : Ru} {s : Int × Int} {l : List Int} {n : Int} : pc r s (l ++ [n]) = cast r (pc r s l) n := by unfold pc; rw [List.foldl_append]; rfl
theorem pc_app {r : Ru} {s : Int × Int} {l m : List Int} : pc r s (l ++ m) = pc r (pc r s l) m := by unfold pc; rw [List.foldl_append]
/-- numbers of castings in bounds -/
def LnOk (l : List Int) : Prop := ∀ n ∈ l, 0 ≤ n ∧ n ≤ 5
theorem pc_fb {r : Ru} (hr : RuOk r) : ∀ (l : List Int) (k : Nat) (s : Int × Int), Fb k s → LnOk l → Fb (k + 19 * l.length) (pc r s l)
  | [], k, s, h, _ => h
  | a :: l, k, s, h, hl => by
    have := pc_fb hr l (k + 19) (cast r s a) (cast_b hr h (hl a (by simp)).1 (hl a (by simp)).2) fun n hn => hl n (by simp [hn])
    rw [List.length_cons, show k + 19 * (l.length + 1) = k + 19 + 19 * l.length by omega]
    exact this
theorem cast_red {r : Ru} (hr : RuOk r) {s : Int × Int} {n : Int} {k : Nat} (hs : Fb k s) (h0 : 0 ≤ n) (h1 : n ≤ 5) : Red (cast r s n) := by
  have c := castB hr hs h0 h1
  exact red_low c.t0 c.b0
theorem pc_red {r : Ru} (hr : RuOk r) : ∀ (l : List Int) (k : Nat) (s : Int × Int), Fb k s → Red s → LnOk l → Red (pc r s l)
  | [], k, s, _, h, _ => h
  | a :: l, k, s, h, _, hl => pc_red hr l (k + 19) (cast r s a) (cast_b hr h (hl a (by simp)).1 (hl a (by simp)).2) (cast_red hr h (hl a (by simp)).1 (hl a (by simp)).2) fun n hn => hl n (by simp [hn])
theorem rv_sh {r : Ru} (hr : RuOk r) : 0 < rv r.1 ∧ rv r.1 < 1 := by
  have a := cast_pos hr.s0
  have b := cast_pos (Int.lt_trans hr.s0 hr.s1)
  have c : (r.1.1 : Rat) < (r.1.2 : Rat) := by exact_mod_cast hr.s1
  unfold rv
  refine ⟨by rw [Rat.lt_div_iff b]; grind, ?_⟩
  rw [Rat.div_lt_iff b]
  grind
theorem rv_w {r : Ru} (hr : RuOk r) : 0 ≤ rv r.2.1 := by
  have b := cast_pos hr.w2
  have a : (0 : Rat) ≤ (r.2.1.1 : Rat) := by exact_mod_cast hr.w0
  unfold rv
  refine Rat.not_lt.mp fun h => ?_
  rw [Rat.div_lt_iff b] at h
  grind
theorem rv_mono {r : Ru} (hr : RuOk r) {s t : Int × Int} {n m : Int} (h1 : 0 < s.2) (h2 : 0 < t.2) (h : rv s ≤ rv t) (hn : n ≤ m) : rv (cast r s n) ≤ rv (cast r t m) := by
  rw [rv_cast hr h1, rv_cast hr h2]
  have hs := (rv_sh hr).1
  have hw := rv_w hr
  have hn' : (n : Rat) ≤ (m : Rat) := by exact_mod_cast hn
  have z := Rat.mul_le_mul_of_nonneg_right hn' hw
  exact Rat.mul_le_mul_of_nonneg_right (by grind) (Rat.le_of_lt hs)
theorem rv_strict {r : Ru} (hr : RuOk r) {s t : Int × Int} {n m : Int} (h1 : 0 < s.2) (h2 : 0 < t.2) (h : rv s < rv t) (hn : n ≤ m) : rv (cast r s n) < rv (cast r t m) := by
  rw [rv_cast hr h1, rv_cast hr h2]
  have hs := (rv_sh hr).1
  have hw := rv_w hr
  have hn' : (n : Rat) ≤ (m : Rat) := by exact_mod_cast hn
  have z := Rat.mul_le_mul_of_nonneg_right hn' hw
  exact Rat.mul_lt_mul_of_pos_right (by grind) hs
/-- number by number no greater -/
inductive Le2 : List Int → List Int → Prop
  | nil : Le2 [] []
  | cons {n m : Int} {l k : List Int} : n ≤ m → Le2 l k → Le2 (n :: l) (m :: k)
theorem Le2.len {l k : List Int} (h : Le2 l k) : l.length = k.length := by
  induction h with
  | nil => rfl
  | cons _ _ ih => simp [ih]
theorem Le2.snoc {l k : List Int} {n m : Int} (h : Le2 l k) (hn : n ≤ m) : Le2 (l ++ [n]) (k ++ [m]) := by
  induction h with
  | nil => exact .cons hn .nil
  | cons h _ ih => exact .cons h ih
theorem Le2.refl : ∀ l : List Int, Le2 l l
  | [] => .nil
  | n :: l => .cons (Int.le_refl n) (Le2.refl l)
theorem Le2.low : ∀ {l : List Int}, (∀ n ∈ l, 0 ≤ n) → Le2 (List.replicate l.length 0) l
  | [], _ => .nil
  | n :: l, h => .cons (h n (by simp)) (Le2.low fun m hm => h m (by simp [hm]))
theorem Le2.high {a : Int} : ∀ {l : List Int}, (∀ n ∈ l, n ≤ a) → Le2 l (List.replicate l.length a)
  | [], _ => .nil
  | n :: l, h => .cons (h n (by simp)) (Le2.high fun m hm => h m (by simp [hm]))
theorem fb_cast {r : Ru} (hr : RuOk r) {s : Int × Int} {n : Int} {k : Nat} (hs : Fb k s) (hn : 0 ≤ n ∧ n ≤ 5) : Fb (k + 19) (cast r s n) := cast_b hr hs hn.1 hn.2
theorem pc_mono {r : Ru} (hr : RuOk r) {l m : List Int} (h : Le2 l m) : ∀ {s t : Int × Int} {k : Nat}, LnOk l → LnOk m → Fb k s → Fb k t → rv s ≤ rv t → rv (pc r s l) ≤ rv (pc r t m) := by
  induction h with
  | nil => intro s t k _ _ _ _ e; exact e
  | @cons n m l k hn _ ih =>
    intro s t j h1 h2 hs ht e
    exact ih (fun x hx => h1 x (by simp [hx])) (fun x hx => h2 x (by simp [hx])) (fb_cast hr hs (h1 n (by simp))) (fb_cast hr ht (h2 m (by simp))) (rv_mono hr hs.b0 ht.b0 e hn)
theorem pc_strict {r : Ru} (hr : RuOk r) {l m : List Int} (h : Le2 l m) : ∀ {s t : Int × Int} {k : Nat}, LnOk l → LnOk m → Fb k s → Fb k t → rv s < rv t → rv (pc r s l) < rv (pc r t m) := by
  induction h with
  | nil => intro s t k _ _ _ _ e; exact e
  | @cons n m l k hn _ ih =>
    intro s t j h1 h2 hs ht e
    exact ih (fun x hx => h1 x (by simp [hx])) (fun x hx => h2 x (by simp [hx])) (fb_cast hr hs (h1 n (by simp))) (fb_cast hr ht (h2 m (by simp))) (rv_strict hr hs.b0 ht.b0 e hn)
theorem pc_strict2 {r : Ru} (hr : RuOk r) (hw : 0 < rv r.2.1) {l m : List Int} (h : Le2 l m) : ∀ {s t : Int × Int} {k : Nat}, LnOk l → LnOk m → Fb k s → Fb k t → rv s ≤ rv t → l ≠ m → rv (pc r s l) < rv (pc r t m) := by
  induction h with
  | nil => intro s t k _ _ _ _ _ e; exact absurd rfl e
  | @cons n m l k hn hlk ih =>
    intro s t j h1 h2 hs ht e hne
    have f1 := fb_cast hr hs (h1 n (by simp))
    have f2 := fb_cast hr ht (h2 m (by simp))
    have g1 : LnOk l := fun x hx => h1 x (by simp [hx])
    have g2 : LnOk k := fun x hx => h2 x (by simp [hx])
    by_cases hnm : n = m
    · subst hnm
      exact ih g1 g2 f1 f2 (rv_mono hr hs.b0 ht.b0 e (Int.le_refl n)) fun z => hne (by rw [z])
    · refine pc_strict hr hlk g1 g2 f1 f2 ?_
      rw [rv_cast hr hs.b0, rv_cast hr ht.b0]
      have hlt : (n : Rat) < (m : Rat) := by exact_mod_cast (show n < m by omega)
      have z := Rat.mul_lt_mul_of_pos_right hlt hw
      exact Rat.mul_lt_mul_of_pos_right (by grind) (rv_sh hr).1
/-- no wear: the numbers don't matter -/
theorem pc_flat {r : Ru} (hw : r.2.1.1 = 0) : ∀ {l m : List Int} {s : Int × Int}, l.length = m.length → pc r s l = pc r s m
  | [], [], _, _ => rfl
  | [], _ :: _, _, h => by simp at h
  | _ :: _, [], _, h => by simp at h
  | a :: l, b :: m, s, h => by
    have e : cast r s a = cast r s b := by unfold cast; rw [hw]; simp
    show pc r (cast r s a) l = pc r (cast r s b) m
    rw [e]
    exact pc_flat hw (by simpa using h)
theorem dead {c : Bool} {A : Prop} (h : c = false) (z : c = true) : A := absurd (h.symm.trans z) Bool.false_ne_true
theorem dead' {c : Bool} {A : Prop} (h : c = true) (z : c = false) : A := absurd (z.symm.trans h) Bool.false_ne_true

/-! ### data of any kind, lists within it: no list of av -/
def Dat (av : List Addr) (G : Gp) (k : Nat) : Nat → T → Prop
  | _, .non => True
  | _, .bl _ => True
  | _, .int i => i.natAbs < 2 ^ (120 + k)
  | _, .str x => x.length + 100 ≤ 150 * 3 ^ k
  | n + 1, .tup ts => ts.length ≤ 400 + k ∧ ∀ t ∈ ts, Dat av G k n t
  | n + 1, .ref a => a ∉ av ∧ ∃ ts, G a = some (.lst ts) ∧ ts.length ≤ 400 + k ∧ ∀ t ∈ ts, Dat av G k n t
  | _, _ => False
theorem pow3_up {k j : Nat} (h : k ≤ j) : 150 * 3 ^ k ≤ 150 * 3 ^ j := Nat.mul_le_mul_left _ (Nat.pow_le_pow_right (by decide) h)
/-- more room, another heap that keeps what is not of av, fewer kept off -/
theorem Dat.mono {av av' : List Addr} {G G' : Gp} {k k' : Nat} (hk : k ≤ k') (hav : ∀ a, a ∈ av' → a ∈ av) (hG : ∀ a o, a ∉ av → G a = some o → G' a = some o) : ∀ {n n' : Nat} {t : T}, n ≤ n' → Dat av G k n t → Dat av' G' k' n' t
  | _, _, .non, _, _ => by cases ‹Nat› <;> trivial
  | _, _, .bl _, _, _ => by cases ‹Nat› <;> trivial
  | n, n', .int i, _, h => by
    have h' : i.natAbs < 2 ^ (120 + k) := by cases n <;> exact h
    have : i.natAbs < 2 ^ (120 + k') := Nat.lt_of_lt_of_le h' (Nat.pow_le_pow_right (by decide) (by omega))
    cases n' <;> exact this
  | n, n', .str x, _, h => by
    have h' : x.length + 100 ≤ 150 * 3 ^ k := by cases n <;> exact h
    have : x.length + 100 ≤ 150 * 3 ^ k' := Nat.le_trans h' (pow3_up hk)
    cases n' <;> exact this
  | n + 1, n' + 1, .tup ts, hn, ⟨h1, h2⟩ => ⟨by omega, fun t ht => Dat.mono hk hav hG (by omega) (h2 t ht)⟩
  | n + 1, n' + 1, .ref a, hn, ⟨h0, ts, h1, h2, h3⟩ => ⟨fun z => h0 (hav a z), ts, hG a _ h0 h1, by omega, fun t ht => Dat.mono hk hav hG (by omega) (h3 t ht)⟩
  | 0, _, .tup _, _, h => h.elim
  | 0, _, .ref _, _, h => h.elim
  | n + 1, 0, .tup _, h, _ => absurd h (by omega)
  | n + 1, 0, .ref _, h, _ => absurd h (by omega)
  | 0, _, .ty _, _, h => h.elim
  | 0, _, .scr _, _, h => h.elim
  | _ + 1, _, .ty _, _, h => h.elim
  | _ + 1, _, .scr _, _, h => h.elim
theorem Dat.int {av : List Addr} {G : Gp} {k n : Nat} {i : Int} : Dat av G k n (.int i) ↔ i.natAbs < 2 ^ (120 + k) := by cases n <;> exact Iff.rfl
theorem Dat.str {av : List Addr} {G : Gp} {k n : Nat} {x : Str} : Dat av G k n (.str x) ↔ x.length + 100 ≤ 150 * 3 ^ k := by cases n <;> exact Iff.rfl
theorem Dat.bl {av : List Addr} {G : Gp} {k n : Nat} {b : Bool} : Dat av G k n (.bl b) := by cases n <;> trivial
theorem Dat.non {av : List Addr} {G : Gp} {k n : Nat} : Dat av G k n .non := by cases n <;> trivial
theorem Dat.ints {av : List Addr} {G : Gp} {k n : Nat} {l : List Int} (h : ∀ i ∈ l, i.natAbs < 2 ^ (120 + k)) : ∀ t ∈ l.map T.int, Dat av G k n t := fun t ht => by
  obtain ⟨i, hi, rfl⟩ := List.mem_map.mp ht
  exact Dat.int.mpr (h i hi)
theorem anyTs_of {G : Gp} : ∀ {ts : List T}, (∀ t ∈ ts, AnyT G t) → AnyTs G ts
  | [], _ => trivial
  | t :: ts, h => ⟨h t List.mem_cons_self, anyTs_of fun u hu => h u (List.mem_cons_of_mem _ hu)⟩
theorem Dat.any {av : List Addr} {G : Gp} {k : Nat} : ∀ {n : Nat} {t : T}, Dat av G k n t → AnyT G t
  | _, .non, _ => trivial
  | _, .bl _, _ => trivial
  | _, .int i, _ => trivial
  | _, .str x, _ => trivial
  | n + 1, .tup ts, ⟨_, h⟩ => anyTs_of fun t ht => Dat.any (h t ht)
  | n + 1, .ref a, ⟨_, ts, h, _, _⟩ => ⟨ts, h⟩
  | 0, .tup _, h => h.elim
  | 0, .ref _, h => h.elim
  | 0, .ty _, h => h.elim
  | 0, .scr _, h => h.elim
  | _ + 1, .ty _, h => h.elim
  | _ + 1, .scr _, h => h.elim
/-- from G0 to G nothing but what av holds has changed -/
def Off (av : List Addr) (G G' : Gp) : Prop := ∀ a o, a ∉ av → G a = some o → G' a = some o
theorem Off.refl (av : List Addr) (G : Gp) : Off av G G := fun _ _ _ h => h
theorem Off.trans {av : List Addr} {G G1 G2 : Gp} (h : Off av G G1) (k : Off av G1 G2) : Off av G G2 := fun a o n e => k a o n (h a o n e)
theorem Off.sub {av : List Addr} {G G' : Gp} (h : Sub G G') : Off av G G' := fun a o _ e => h a o e
theorem Off.more {av av' : List Addr} {G G' : Gp} (h : Off av G G') (s : ∀ a ∈ av, a ∈ av') : Off av' G G' := fun a o n e => h a o (fun z => n (s a z)) e
theorem Off.bt {av : List Addr} {b : Addr} {G G' : Gp} (hb : b ∈ av) (h : BT b G G') : Off av G G' := fun a o n e => h.get (fun z => n (by rw [z]; exact hb)) e
theorem Off.put {av : List Addr} {p : Addr} {G G' : Gp} {o : GO} (hp : p ∈ av) (h : Off av G G') : Off av G (gput G' p o) := fun a u n e => by
  rw [gput_ne (fun z => n (by rw [z]; exact hp))]
  exact h a u n e
theorem Off.new {av : List Addr} {p : Addr} {G G' : Gp} {o : GO} (hp : G' p = none) (h : Off av G G') : Off av G (gput G' p o) := fun a u n e => by
  have := h a u n e
  rw [gput_ne (gne this hp)]
  exact this
theorem Dat.off {av : List Addr} {G G' : Gp} {k n : Nat} {t : T} (h : Dat av G k n t) (f : Off av G G') : Dat av G' k n t := h.mono (Nat.le_refl _) (fun _ z => z) f (Nat.le_refl _)
/-- the lists kept off stand in the heap -/
def Known (av : List Addr) (G : Gp) : Prop := ∀ a ∈ av, ∃ o, G a = some o
theorem Known.new {av : List Addr} {G : Gp} {p : Addr} (h : Known av G) (hp : G p = none) : p ∉ av := fun z => by
  obtain ⟨o, e⟩ := h p z
  rw [hp] at e; cases e
theorem BT.trans {b : Addr} {G0 G1 G2 : Gp} (h : BT b G0 G1) (k : BT b G1 G2) : BT b G0 G2 := by
  obtain ⟨c1, c2, o, s⟩ := h
  obtain ⟨d1, d2, o', s'⟩ := k
  refine ⟨d1, d2, o', fun a u e => ?_⟩
  by_cases ha : a = b
  · subst ha; rw [gput_same] at e; exact s' a u (by rw [gput_same]; exact e)
  · rw [gput_ne ha] at e
    exact s' a u (by rw [gput_ne ha]; exact s a u (by rw [gput_ne ha]; exact e))
theorem Known.bt {av : List Addr} {b : Addr} {G G' : Gp} (h : Known av G) (k : BT b G G') : Known av G' := fun a ha => by
  by_cases e : a = b
  · subst e
    obtain ⟨c1, c2, z, _⟩ := k.bag
    exact ⟨_, z⟩
  · obtain ⟨o, z⟩ := h a ha
    exact ⟨o, k.get e z⟩
theorem Known.sub {av : List Addr} {G G' : Gp} (h : Known av G) (s : Sub G G') : Known av G' := fun a ha => by
  obtain ⟨o, z⟩ := h a ha
  exact ⟨o, s a o z⟩
theorem Known.put {av : List Addr} {G : Gp} {p : Addr} {o : GO} (h : Known av G) : Known av (gput G p o) := fun a ha => by
  by_cases e : a = p
  · subst e; exact ⟨_, gput_same⟩
  · obtain ⟨u, z⟩ := h a ha
    exact ⟨u, by rw [gput_ne e]; exact z⟩
theorem Known.cons {av : List Addr} {G : Gp} {p : Addr} {o : GO} (h : Known av G) (e : G p = some o) : Known (p :: av) G := fun a ha => by
  rcases List.mem_cons.mp ha with z | z
  · rw [z]; exact ⟨_, e⟩
  · exact h a z
/-- one of some things, picked by a drawn number -/
theorem pick_at {ts : List T} {i : Int} (h0 : 0 ≤ i) (h1 : i < ts.length) : ∃ n t, ixN ts.length i = some n ∧ ts[n]? = some t ∧ t ∈ ts ∧ n = i.toNat := by
  have hx : i.toNat < ts.length := by omega
  have hi := ixN_nat (n := i.toNat) (len := ts.length) hx
  rw [show Int.ofNat i.toNat = i by show ((i.toNat : Nat) : Int) = i; omega] at hi
  exact ⟨_, _, hi, List.getElem?_eq_getElem hx, List.getElem_mem hx, rfl⟩
theorem cut_take {α : Type} {ts : List α} {i : Int} (h : 0 ≤ i) : cutT ts none (some i) = ts.take i.toNat := by
  unfold cutT
  rw [HT.sIx_none, List.drop_zero, Nat.sub_zero]
  obtain ⟨n, rfl⟩ : ∃ n : Nat, i = n := ⟨i.toNat, by omega⟩
  rw [HT.sIx_nat, Int.toNat_natCast]
  exact List.take_eq_take_min.symm
theorem cut_drop {α : Type} {ts : List α} {i : Int} (h : 0 ≤ i) : cutT ts (some i) none = ts.drop i.toNat := by
  unfold cutT
  rw [HT.sIx_none]
  obtain ⟨n, rfl⟩ : ∃ n : Nat, i = n := ⟨i.toNat, by omega⟩
  rw [HT.sIx_nat, Int.toNat_natCast]
  by_cases c : n ≤ ts.length
  · rw [Nat.min_eq_left c, List.take_of_length_le]
    rw [List.length_drop]; exact Nat.le_refl _
  · rw [Nat.min_eq_right (by omega), Nat.sub_self, List.take_zero, List.drop_of_length_le (by omega)]
theorem cut_len {α : Type} {ts : List α} {lo hi : Option Int} : (cutT ts lo hi).length ≤ ts.length := by
  unfold cutT
  rw [List.length_take, List.length_drop]; omega
theorem cut_mem {α : Type} {ts : List α} {lo hi : Option Int} {x : α} (h : x ∈ cutT ts lo hi) : x ∈ ts := List.mem_of_mem_drop (List.mem_of_mem_take h)
theorem dat_num {av : List Addr} {G : Gp} {k n : Nat} {i : Int} (h : i.natAbs ≤ 2 ^ (120 + k) + 1000) : Dat av G (k + 1) n (.int i) := Dat.int.mpr (by
  have e : 2 ^ (120 + (k + 1)) = 2 ^ (120 + k) * 2 := Nat.pow_succ 2 (120 + k)
  have : 2 ^ 120 ≤ 2 ^ (120 + k) := Nat.pow_le_pow_right (by decide) (by omega)
  have : 1001 ≤ 2 ^ 120 := by decide
  omega)
theorem dat_str {av : List Addr} {G : Gp} {k n : Nat} {x : Str} {l : Nat} (h : x.length ≤ 3 * l + 200) (hl : l + 100 ≤ 150 * 3 ^ k) : Dat av G (k + 1) n (.str x) := Dat.str.mpr (by
  rw [Nat.pow_succ]
  omega)
theorem str_int_len {i : Int} {k : Nat} (h : i.natAbs < 2 ^ (120 + k)) (hk : k ≤ 5) : i.natAbs.log2 < 1920 ∧ (Str.ofString (toString i)).length ≤ 200 := by
  have h1 : i.natAbs.log2 < 126 := by
    by_cases c : i.natAbs = 0
    · rw [c]; decide
    · exact (Nat.log2_lt c).mpr (Nat.lt_of_lt_of_le h (Nat.pow_le_pow_right (by decide) (by omega)))
  refine ⟨by omega, ?_⟩
  rw [PySem.ofString_length]
  have := PySem.int_text_length_le (k := 126) (by decide) h1
  omega
theorem Dat.fresh {av : List Addr} {G : Gp} {k : Nat} {p : Addr} {o : GO} (hp : G p = none) : ∀ {n : Nat} {t : T}, Dat av G k n t → Dat (p :: av) (gput G p o) k n t
  | _, .non, _ => Dat.non
  | _, .bl _, _ => Dat.bl
  | _, .int i, h => Dat.int.mpr (Dat.int.mp h)
  | _, .str x, h => Dat.str.mpr (Dat.str.mp h)
  | n + 1, .tup ts, ⟨h1, h2⟩ => ⟨h1, fun t ht => Dat.fresh hp (h2 t ht)⟩
  | n + 1, .ref a, ⟨h0, ts, h1, h2, h3⟩ => ⟨fun z => by
      rcases List.mem_cons.mp z with z | z
      · rw [z, hp] at h1; cases h1
      · exact h0 z, ts, (by rw [gput_ne (gne h1 hp)]; exact h1), h2, fun t ht => Dat.fresh hp (h3 t ht)⟩
  | 0, .tup _, h => h.elim
  | 0, .ref _, h => h.elim
  | 0, .ty _, h => h.elim
  | 0, .scr _, h => h.elim
  | _ + 1, .ty _, h => h.elim
  | _ + 1, .scr _, h => h.elim
/-- kept off is kept off -/
theorem Dat.less {av : List Addr} {G : Gp} {k n : Nat} {p : Addr} {o : GO} {t : T} (h : Dat (p :: av) G k n t) : Dat av (gput G p o) k n t :=
  h.mono (Nat.le_refl _) (fun a z => List.mem_cons_of_mem _ z) (Off.put List.mem_cons_self (Off.refl _ _)) (Nat.le_refl _)

--USE data
/-- a line of such rules -/
def isLine (life : Int) : T → Bool
  | .tup us => decide (us.length ≤ 40) && us.all fun x => isWithin x 0 (life - 1)
  | _ => false
theorem anyTs_mem {G : Gp} : ∀ {ts : List T}, AnyTs G ts → ∀ t ∈ ts, AnyT G t
  | [], _, t, h => by cases h
  | u :: ts, ⟨h1, h2⟩, t, h => by
    rcases List.mem_cons.mp h with e | e
    · rw [e]; exact h1
    · exact anyTs_mem h2 t e
mutual
theorem AnyT.sub {G G' : Gp} (s : Sub G G') : ∀ t : T, AnyT G t → AnyT G' t
  | .non, _ => trivial
  | .bl _, _ => trivial
  | .int _, _ => trivial
  | .str _, _ => trivial
  | .tup ts, h => AnyTs.sub s ts h
  | .ref a, ⟨xs, h⟩ => ⟨xs, s a _ h⟩
  | .ty _, h => h.elim
  | .scr _, h => h.elim
theorem AnyTs.sub {G G' : Gp} (s : Sub G G') : ∀ ts : List T, AnyTs G ts → AnyTs G' ts
  | [], _ => trivial
  | t :: ts, ⟨h1, h2⟩ => ⟨AnyT.sub s t h1, AnyTs.sub s ts h2⟩
end

def sp_is_whole : QSp := fun ts G Q _ => ∃ x, ts = [x] ∧ AnyT G x ∧ Q (.bl (isWhole x)) G
def sp_is_within : QSp := fun ts G Q _ => ∃ x a b, ts = [x, .int a, .int b] ∧ AnyT G x ∧ Q (.bl (isWithin x a b)) G
def sp_lowest : QSp := fun ts G Q _ => match ts with
  | [.int t, .int b] => (0 ≤ t ∧ 0 < b ∧ b.natAbs < 2 ^ 8999) ∧ Q (fr (low t b)) G
  | _ => False
def sp_is_part : QSp := fun ts G Q _ => ∃ x a b, ts = [x, .int a, .int b] ∧ AnyT G x ∧ a ≤ 1000000 ∧ b ≤ 1000000 ∧ Q (.bl (isPart x a b)) G
theorem isPart_len {us : List T} {a b : Int} (h : ¬ (us.length : Int) = 2) : isPart (.tup us) a b = false := by
  match us, h with
  | [], _ => rfl
  | [_], _ => rfl
  | [_, _], h => exact absurd rfl h
  | _ :: _ :: _ :: _, _ => rfl
theorem two_of {us : List T} (h : (us.length : Int) = 2) : ∃ x y, us = [x, y] := by
  match us, h with
  | [x, y], _ => exact ⟨x, y, rfl⟩
theorem within_int {x : T} {a b : Int} (h : isWithin x a b = true) : ∃ i, x = .int i ∧ a ≤ i ∧ i ≤ b := by
  cases x with
  | int i =>
    simp only [isWithin, Bool.and_eq_true, decide_eq_true_eq] at h
    exact ⟨i, rfl, h.1, h.2⟩
  | _ => cases h
theorem teq_fr (p q : Int × Int) : teq (fr p) (fr q) = decide (p = q) := by
  by_cases h : p = q
  · subst h; simp [fr, teq, teqs]
  · rw [decide_eq_false h]
    cases e : teq (fr p) (fr q) with
    | false => rfl
    | true =>
      simp only [fr, teq, teqs, Bool.and_true, Bool.and_eq_true, decide_eq_true_eq] at e
      exact absurd (Prod.ext e.1 e.2) h
theorem part_of {x : T} {a b : Int} (h : isPart x a b = true) : ∃ t c, x = .tup [.int t, .int c] ∧ 0 ≤ t ∧ t ≤ a ∧ 1 ≤ c ∧ c ≤ b ∧ low t c = (t, c) := by
  cases x with
  | tup us =>
    by_cases hl : (us.length : Int) = 2
    · obtain ⟨x, y, rfl⟩ := two_of hl
      have h' := h
      simp only [isPart, Bool.and_eq_true] at h'
      obtain ⟨t, rfl, _⟩ := within_int h'.1.1
      obtain ⟨c, rfl, _⟩ := within_int h'.1.2
      exact ⟨t, c, rfl, isPart_fr h⟩
    · rw [isPart_len hl] at h; cases h
  | _ => cases h
def sp_are_rules : QSp := fun ts G Q _ => ∃ x, ts = [x] ∧ AnyT G x ∧ Q (.bl (areRules x)) G
theorem areRules_len {us : List T} (h : ¬ (us.length : Int) = 3) : areRules (.tup us) = false := by
  match us, h with
  | [], _ => rfl
  | [_], _ => rfl
  | [_, _], _ => rfl
  | [_, _, _], h => exact absurd rfl h
  | _ :: _ :: _ :: _ :: _, _ => rfl
theorem three_of {us : List T} (h : (us.length : Int) = 3) : ∃ x y z, us = [x, y, z] := by
  match us, h with
  | [x, y, z], _ => exact ⟨x, y, z, rfl⟩
def sp_is_size : QSp := fun ts G Q _ => ∃ x, ts = [x] ∧ AnyT G x ∧ Q (.bl (isSize x)) G
def sp_is_line : QSp := fun ts G Q _ => ∃ (r : Ru) (x : T), ts = [ruT r, x] ∧ AnyT G x ∧ Q (.bl (isLine r.2.2 x)) G
def sp_law_bag : QSp := fun ts G Q _ => match ts with
  | [.scr ns, .int k] => (0 ≤ k ∧ k ≤ 100 ∧ ns.length ≤ 63) ∧ ∀ p c1 c2, G p = none → BOk c1 c2 → Q (.ref p) (gput G p (bagO c1 c2))
  | _ => False
def sp_law_take : QSp := fun ts G Q _ => match ts with
  | [.ref b, .int m] => (Bag G b ∧ 0 < m ∧ m ≤ 2000000) ∧ ∀ r G', 0 ≤ r → r < m → BagTo b G G' → Q (.int r) G'
  | _ => False
def sp_law_of : QSp := fun ts G Q _ => ∃ (b : Addr) (s : T) (xs : List T), ts = [.ref b, s] ∧ (Bag G b ∧ (s = .tup xs ∨ ∃ a, s = .ref a ∧ a ≠ b ∧ G a = some (.lst xs)) ∧ xs ≠ [] ∧ xs.length ≤ 1000) ∧ ∀ x ∈ xs, ∀ G', BagTo b G G' → Q x G'
def sp_law_within : QSp := fun ts G Q _ => ∃ x a b, ts = [x, .int a, .int b] ∧ AnyT G x ∧ Q (.bl (isWithin x a b)) G
def sp_law_odd : QSp := fun ts G Q _ => ∃ (b : Addr) (av : List Addr), ts = [.ref b] ∧ b ∈ av ∧ Known av G ∧ Bag G b ∧ ∀ y G', BT b G G' → Dat av G' 1 3 y → Q y G'
def sp_law_spoilt (n : Nat) : QSp := fun ts G Q _ => ∃ (b : Addr) (av : List Addr) (x : T) (m k : Nat), ts = [.ref b, x] ∧ m < n ∧ k ≤ 5 ∧ b ∈ av ∧ Known av G ∧ Bag G b ∧ Dat av G k m x ∧ ∀ y G', BT b G G' → Dat av G' (k + 1) (m + 3) y → Q y G'
theorem sp_law_spoilt_none {ts : List T} {G : Gp} {Q : TK} {E : XQ} : ¬ sp_law_spoilt 0 ts G Q E := by
  rintro ⟨_, _, _, m, _, _, h, _⟩
  omega
def sp_law_lowest : QSp := fun ts G Q _ => match ts with
  | [.int t, .int b] => (0 ≤ t ∧ 0 < b ∧ b.natAbs < 2 ^ 8999) ∧ Q (fr (low t b)) G
  | _ => False
def sp_law_rules : QSp := fun ts G Q _ => match ts with
  | [.ref b] => Bag G b ∧ ∀ r G', RuOk r → BagTo b G G' → Q (ruT r) G'
  | _ => False
def sp_law_size : QSp := fun ts G Q _ => match ts with
  | [.ref b] => Bag G b ∧ ∀ s G', SzOk s → BagTo b G G' → Q (fr s) G'
  | _ => False
theorem pick3 {x a b c : Int} (h0 : 0 ≤ x) (h1 : x < 3) : ∃ m : Int, (m = a ∨ m = b ∨ m = c) ∧ ∃ n, ixN 3 x = some n ∧ ([.int a, .int b, .int c] : List T)[n]? = some (.int m) := by
  obtain rfl | rfl | rfl : x = 0 ∨ x = 1 ∨ x = 2 := by omega
  · exact ⟨a, .inl rfl, 0, rfl, rfl⟩
  · exact ⟨b, .inr (.inl rfl), 1, rfl, rfl⟩
  · exact ⟨c, .inr (.inr rfl), 2, rfl, rfl⟩
def sp_law_line : QSp := fun ts G Q _ => ∃ (b : Addr) (r : Ru) (most : Int), ts = [.ref b, ruT r, .int most] ∧ (Bag G b ∧ 1 ≤ r.2.2 ∧ r.2.2 ≤ 6 ∧ 0 ≤ most ∧ most ≤ 1000) ∧
  ∀ (l : List Int) G', (∀ n ∈ l, 0 ≤ n ∧ n < r.2.2) → (l.length : Int) ≤ most → BagTo b G G' → Q (lnT l) G'
def sp_law_is_part : QSp := fun ts G Q _ => ∃ x a b, ts = [x, .int a, .int b] ∧ AnyT G x ∧ a ≤ 1000000 ∧ b ≤ 1000000 ∧ Q (.bl (isPart x a b)) G
def sp_law_are_rules : QSp := fun ts G Q _ => ∃ x, ts = [x] ∧ AnyT G x ∧ Q (.bl (areRules x)) G
def sp_law_is_size : QSp := fun ts G Q _ => ∃ x, ts = [x] ∧ AnyT G x ∧ Q (.bl (isSize x)) G
def sp_law_is_line : QSp := fun ts G Q _ => ∃ (r : Ru) (x : T), ts = [ruT r, x] ∧ AnyT G x ∧ Q (.bl (isLine r.2.2 x)) G
theorem teqs_nil {xs : List T} : teqs xs [] = xs.isEmpty := by cases xs <;> rfl
theorem filter_empty {α : Type} {p : α → Bool} (l : List α) : (l.filter fun x => !p x).isEmpty = l.all p := by
  induction l with
  | nil => rfl
  | cons x l ih =>
    cases h : p x with
    | true => rw [List.filter_cons_of_neg (by simp [h]), ih, List.all_cons, h, Bool.true_and]
    | false => rw [List.filter_cons_of_pos (by simp [h]), List.all_cons, h, Bool.false_and]; rfl
abbrev s_is_whole : Stmt := topS 7
abbrev N_is_whole : List Str := ["thing"]
theorem sc_is_whole : FnScope N_is_whole ["thing"] (defScope s_is_whole) := ⟨rfl, rfl, rfl, by decide +kernel, rfl, by decide +kernel, by decide +kernel⟩
set_option maxHeartbeats 4000000 in
theorem ok_is_whole {P : Program} {w : World} {K : PySem.W.Frag} {mg : Str → Option Value} {base : Heap} (F : FunAt K mg "is_whole" "is_whole" s_is_whole ["thing"]) (TX : Txt K mg)  :
    DefOk P w K mg base 1 "is_whole" ["thing"] sp_is_whole := by
  refine okd F sc_is_whole (fun ts G Q E h => ?len) (fun f cdv A outer s H E hr => ss_one (s_ret (e_and (e_callB b_isi (by rfl) TX.n_isinstance (by decide +kernel) (a_cons (e_var 0) (a_cons (e_ty .int (by rfl) TX.n_int (by decide +kernel)) a_nil))) (pe_one (e_not (e_callB b_isi (by rfl) TX.n_isinstance (by decide +kernel) (a_cons (e_var 0) (a_cons (e_ty .bool (by rfl) TX.n_bool (by decide +kernel)) a_nil))))))))
    (fun ts G Q E h => ?run)
  case len => obtain ⟨x, rfl, _⟩ := h; rfl
  case run =>
    obtain ⟨x, rfl, ha, hQ⟩ := h
    cases x with
    | non => exact ⟨fun c => (by cases c), fun _ => Ret.of hQ⟩
    | bl b => exact ⟨fun _ => Ret.of hQ, fun c => (by cases c)⟩
    | int i => exact ⟨fun _ => Ret.of hQ, fun c => (by cases c)⟩
    | str z => exact ⟨fun c => (by cases c), fun _ => Ret.of hQ⟩
    | tup us => exact ⟨fun c => (by cases c), fun _ => Ret.of hQ⟩
    | ref a =>
      obtain ⟨xs, hx⟩ := ha
      exact ⟨xs, hx, fun c => (by cases c), fun _ => Ret.of hQ⟩
    | ty n => exact ha.elim
    | scr n => exact ha.elim
abbrev s_is_within : Stmt := topS 8
abbrev N_is_within : List Str := ["thing", "least", "most"]
theorem sc_is_within : FnScope N_is_within ["thing", "least", "most"] (defScope s_is_within) := ⟨rfl, rfl, rfl, by decide +kernel, rfl, by decide +kernel, by decide +kernel⟩
set_option maxHeartbeats 4000000 in
theorem ok_is_within {P : Program} {w : World} {K : PySem.W.Frag} {mg : Str → Option Value} {base : Heap} (F : FunAt K mg "is_within" "is_within" s_is_within ["thing", "least", "most"]) (TX : Txt K mg) (D_is_whole : DefOk P w K mg base 1 "is_whole" ["thing"] sp_is_whole) :
    DefOk P w K mg base 2 "is_within" ["thing", "least", "most"] sp_is_within := by
  refine okd F sc_is_within (fun ts G Q E h => ?len) (fun f cdv A outer s H E hr => ss_one (s_ret (e_and (e_callD D_is_whole hr (by rfl) (a_cons (e_var 0) a_nil)) (pe_one (e_chain o_le o_le (e_var 1) (e_var 0) (e_var 2))))))
    (fun ts G Q E h => ?run)
  case len => obtain ⟨x, a, b, rfl, _⟩ := h; rfl
  case run =>
    obtain ⟨x, a, b, rfl, ha, hQ⟩ := h
    refine ⟨x, rfl, ha, ?_⟩
    cases x with
    | int i =>
      refine ⟨fun _ => ?_, fun c => (by cases c)⟩
      refine ⟨fun h1 => ?_, fun h1 => ?_⟩
      · have e : isWithin (.int i) a b = decide (i ≤ b) := by simp only [isWithin, h1, Bool.true_and]
        rw [e] at hQ
        exact Ret.of hQ
      · have e : isWithin (.int i) a b = false := by simp only [isWithin, h1, Bool.false_and]
        rw [e] at hQ
        exact Ret.of hQ
    | ty n => exact ha.elim
    | scr n => exact ha.elim
    | _ => exact ⟨fun c => (by cases c), fun _ => Ret.of hQ⟩
abbrev s_lowest : Stmt := topS 9
abbrev N_lowest : List Str := ["top", "bottom", "one", "other"]
theorem sc_lowest : FnScope N_lowest ["top", "bottom"] (defScope s_lowest) := ⟨rfl, rfl, rfl, by decide +kernel, rfl, by decide +kernel, by decide +kernel⟩
set_option maxHeartbeats 4000000 in
theorem ok_lowest {P : Program} {w : World} {K : PySem.W.Frag} {mg : Str → Option Value} {base : Heap} (F : FunAt K mg "lowest" "lowest" s_lowest ["top", "bottom"]) (TX : Txt K mg)  :
    DefOk P w K mg base 1 "lowest" ["top", "bottom"] sp_lowest := by
  refine okd F sc_lowest (fun ts G Q E h => ?len) (fun f cdv A outer s H E hr => ss_cons (s_par (i := 2) (j := 3) rfl sc_lowest.nd rfl rfl  (by decide)  rfl rfl  (a_cons (e_var 0) (a_cons (e_var 1) a_nil)) rfl)
    (ss_cons (s_while PassesOwn.never (t_cmp o_gt (e_var 3) (e_int) (nomark _)) (ss_one (s_par (i := 2) (j := 3) rfl sc_lowest.nd rfl rfl  (by decide)  rfl rfl  (a_cons (e_var 3) (a_cons (e_op o_mod (e_var 2) (e_var 3)) a_nil)) rfl)))
    (ss_one (s_ret (e_tup (a_cons (e_op o_div (e_var 0) (e_var 2)) (a_cons (e_op o_div (e_var 1) (e_var 2)) a_nil)))))))
    (fun ts G Q E h => ?run)
  case len => unfold sp_lowest at h; split at h <;> first | rfl | exact h.elim
  case run =>
    unfold sp_lowest at h
    split at h
    · rename_i t b
      obtain ⟨⟨h0, h1, h2⟩, hQ⟩ := h
      refine ⟨fun m ρ G' => ∃ x y : Int, ρ = [some (.int t), some (.int b), some (.int x), some (.int y)] ∧ G' = G ∧ 0 ≤ x ∧ 0 ≤ y ∧ Int.gcd x y = Int.gcd t b ∧ m = y.toNat, ⟨_, t, b, rfl, rfl, h0, by omega, rfl, rfl⟩, ?_⟩
      rintro m ρ G' ⟨x, y, rfl, rfl, hx, hy, hg, rfl⟩
      refine ⟨fun c => ?_, fun c => ?_⟩
      · have hy0 : 0 < y := of_decide_eq_true c
        have hm := Int.emod_lt_of_pos x hy0
        have hm0 := Int.emod_nonneg x (show y ≠ 0 by omega)
        exact ⟨hy0, Wk.of ⟨(x % y).toNat, by omega, y, x % y, rfl, rfl, by omega, hm0, by rw [gcd_step hx hy0]; exact hg, rfl⟩⟩
      · have hy0 : ¬ 0 < y := of_decide_eq_false c
        have e : y = 0 := by omega
        subst e
        have hxe : x = (Int.gcd t b : Int) := by
          rw [← hg, Int.gcd_zero_right]
          omega
        have hp : 0 < Int.gcd t b := Int.gcd_pos_of_ne_zero_right t (by omega)
        have hle : Int.gcd t b ≤ b.natAbs := Nat.le_of_dvd (by omega) (Int.gcd_dvd_natAbs_right t b)
        have ok : DivOk x := divOk 8999 (by omega) (by rw [hxe]; omega) (by omega)
        refine ⟨ok, ok, ?_⟩
        rw [hxe]
        exact Ret.of hQ
    · exact h.elim
abbrev s_is_part : Stmt := topS 10
abbrev N_is_part : List Str := ["thing", "most_top", "most_bottom"]
theorem sc_is_part : FnScope N_is_part ["thing", "most_top", "most_bottom"] (defScope s_is_part) := ⟨rfl, rfl, rfl, by decide +kernel, rfl, by decide +kernel, by decide +kernel⟩
set_option maxHeartbeats 4000000 in
theorem ok_is_part {P : Program} {w : World} {K : PySem.W.Frag} {mg : Str → Option Value} {base : Heap} (F : FunAt K mg "is_part" "is_part" s_is_part ["thing", "most_top", "most_bottom"]) (TX : Txt K mg) (D_is_within : DefOk P w K mg base 2 "is_within" ["thing", "least", "most"] sp_is_within) (D_lowest : DefOk P w K mg base 1 "lowest" ["top", "bottom"] sp_lowest) :
    DefOk P w K mg base 3 "is_part" ["thing", "most_top", "most_bottom"] sp_is_part := by
  refine okd F sc_is_part (fun ts G Q E h => ?len) (fun f cdv A outer s H E hr => ss_cons (s_if (PW.pt (w_or (t_not (t_tr (e_callB b_isi (by rfl) TX.n_isinstance (by decide +kernel) (a_cons (e_var 0) (a_cons (e_ty .tuple (by rfl) TX.n_tuple (by decide +kernel)) a_nil))))) (pw_or1 (t_cmp (o_ne hr.units) (e_callB b_len (by rfl) TX.n_len (by decide +kernel) (a_cons (e_var 0) a_nil)) (e_int) (nomark _))))) (ss_one (s_ret (e_bl))) (ss_nil))
    (ss_cons (s_if (PW.pt (w_or (t_not (t_tr (e_callD D_is_within hr (by rfl) (a_cons (e_ix i_ixC (e_var 0) (e_int) (fun _ _ => rfl)) (a_cons (e_int) (a_cons (e_var 1) a_nil)))))) (pw_or1 (t_not (t_tr (e_callD D_is_within hr (by rfl) (a_cons (e_ix i_ixC (e_var 0) (e_int) (fun _ _ => rfl)) (a_cons (e_int) (a_cons (e_var 2) a_nil))))))))) (ss_one (s_ret (e_bl))) (ss_nil))
    (ss_one (s_ret (e_cmp (o_eq hr.units) (e_callD D_lowest (hr.mono (by decide)) (by rfl) (a_cons (e_ix i_ixC (e_var 0) (e_int) (fun _ _ => rfl)) (a_cons (e_ix i_ixC (e_var 0) (e_int) (fun _ _ => rfl)) a_nil))) (e_var 0) (nomark _))))))
    (fun ts G Q E h => ?run)
  case len => obtain ⟨x, a, b, rfl, _⟩ := h; rfl
  case run =>
    obtain ⟨x, a, b, rfl, ha, ma, mb, hQ⟩ := h
    cases x with
    | ref p =>
      obtain ⟨xs, hx⟩ := ha
      exact ⟨xs, hx, fun _ => ⟨fun _ => Ret.of hQ, fun c => (by cases c)⟩, fun c => (by cases c)⟩
    | ty n => exact ha.elim
    | scr n => exact ha.elim
    | tup us =>
      refine ⟨fun c => (by cases c), fun _ => ?_⟩
      refine ⟨fun c => ?_, fun c => ?_⟩
      · have hl : ¬ (us.length : Int) = 2 := by simpa using c
        rw [isPart_len hl] at hQ
        exact Ret.of hQ
      · have hl : (us.length : Int) = 2 := by simpa using c
        obtain ⟨x, y, rfl⟩ := two_of hl
        refine ⟨x, 0, a, rfl, ha.1, fun c1 => ?_, fun c1 => ?_⟩
        · have e : isPart (.tup [x, y]) a b = false := by
            have : isWithin x 0 a = false := by simpa using c1
            simp only [isPart, this, Bool.false_and]
          rw [e] at hQ
          exact ⟨fun _ => Ret.of hQ, fun z => (by cases z)⟩
        · have w1 : isWithin x 0 a = true := by simpa using c1
          refine ⟨y, 1, b, rfl, ha.2.1, ?_⟩
          refine ⟨fun c2 => ?_, fun c2 => ?_⟩
          · have e : isPart (.tup [x, y]) a b = false := by
              have : isWithin y 1 b = false := by simpa using c2
              simp only [isPart, this, Bool.false_and, Bool.and_false]
            rw [e] at hQ
            exact Ret.of hQ
          · have w2 : isWithin y 1 b = true := by simpa using c2
            obtain ⟨t, rfl, t0, t1⟩ := within_int w1
            obtain ⟨d, rfl, d0, d1⟩ := within_int w2
            have hb : d.natAbs < 2 ^ 8999 := Nat.lt_of_lt_of_le (show d.natAbs < 2 ^ 20 by omega) (Nat.pow_le_pow_right (by decide) (by decide))
            refine ⟨⟨t0, by omega, hb⟩, ?_⟩
            refine ⟨rfl, rfl, ?_⟩
            have e : isPart (.tup [.int t, .int d]) a b = (false != teq (fr (low t d)) (.tup [.int t, .int d])) := by
              have z := teq_fr (low t d) (t, d)
              rw [Bool.false_bne, show (T.tup [.int t, .int d]) = fr (t, d) from rfl, z]
              simp only [isPart, fr, w1, w2, Bool.true_and, Bool.and_self]
            rw [e] at hQ
            exact Ret.of hQ
    | _ => exact ⟨fun _ => ⟨fun _ => Ret.of hQ, fun c => (by cases c)⟩, fun c => (by cases c)⟩
abbrev s_are_rules : Stmt := topS 11
abbrev N_are_rules : List Str := ["thing"]
theorem sc_are_rules : FnScope N_are_rules ["thing"] (defScope s_are_rules) := ⟨rfl, rfl, rfl, by decide +kernel, rfl, by decide +kernel, by decide +kernel⟩
set_option maxHeartbeats 4000000 in
theorem ok_are_rules {P : Program} {w : World} {K : PySem.W.Frag} {mg : Str → Option Value} {base : Heap} (F : FunAt K mg "are_rules" "are_rules" s_are_rules ["thing"]) (TX : Txt K mg) (D_is_part : DefOk P w K mg base 3 "is_part" ["thing", "most_top", "most_bottom"] sp_is_part) (D_is_within : DefOk P w K mg base 2 "is_within" ["thing", "least", "most"] sp_is_within) :
    DefOk P w K mg base 4 "are_rules" ["thing"] sp_are_rules := by
  refine okd F sc_are_rules (fun ts G Q E h => ?len) (fun f cdv A outer s H E hr => ss_cons (s_if (PW.pt (w_or (t_not (t_tr (e_callB b_isi (by rfl) TX.n_isinstance (by decide +kernel) (a_cons (e_var 0) (a_cons (e_ty .tuple (by rfl) TX.n_tuple (by decide +kernel)) a_nil))))) (w_or (t_cmp (o_ne hr.units) (e_callB b_len (by rfl) TX.n_len (by decide +kernel) (a_cons (e_var 0) a_nil)) (e_int) (nomark _)) (pw_or1 (t_not (t_tr (e_callD D_is_part hr (by rfl) (a_cons (e_ix i_ixC (e_var 0) (e_int) (fun _ _ => rfl)) (a_cons (e_glI (by rfl) TX.c_MOST_PART) (a_cons (e_glI (by rfl) TX.c_MOST_PART) a_nil)))))))))) (ss_one (s_ret (e_bl))) (ss_nil))
    (ss_cons (s_if (PW.pt (w_or (t_not (t_chain (o_lt2 (un66 hr)) (o_lt2 (un66 hr)) (e_int) (e_ix i_ixC (e_ix i_ixC (e_var 0) (e_int) (fun _ _ => rfl)) (e_int) (fun _ _ => rfl)) (e_ix i_ixC (e_ix i_ixC (e_var 0) (e_int) (fun _ _ => rfl)) (e_int) (fun _ _ => rfl)))) (pw_or1 (t_not (t_tr (e_callD D_is_part hr (by rfl) (a_cons (e_ix i_ixC (e_var 0) (e_int) (fun _ _ => rfl)) (a_cons (e_glI (by rfl) TX.c_MOST_WEAR) (a_cons (e_glI (by rfl) TX.c_MOST_PART) a_nil))))))))) (ss_one (s_ret (e_bl))) (ss_nil))
    (ss_one (s_ret (e_callD D_is_within (hr.mono (by decide)) (by rfl) (a_cons (e_ix i_ixC (e_var 0) (e_int) (fun _ _ => rfl)) (a_cons (e_int) (a_cons (e_glI (by rfl) TX.c_MOST_LIFE) a_nil))))))))
    (fun ts G Q E h => ?run)
  case len => obtain ⟨x, rfl, _⟩ := h; rfl
  case run =>
    obtain ⟨x, rfl, ha, hQ⟩ := h
    cases x with
    | ref p =>
      obtain ⟨xs, hx⟩ := ha
      exact ⟨xs, hx, fun _ => ⟨fun _ => Ret.of hQ, fun c => (by cases c)⟩, fun c => (by cases c)⟩
    | ty n => exact ha.elim
    | scr n => exact ha.elim
    | tup us =>
      refine ⟨fun c => (by cases c), fun _ => ?_⟩
      refine ⟨fun c => ?_, fun c => ?_⟩
      · have hl : ¬ (us.length : Int) = 3 := by simpa using c
        rw [areRules_len hl] at hQ
        exact ⟨fun _ => Ret.of hQ, fun z => (by cases z)⟩
      · have hl : (us.length : Int) = 3 := by simpa using c
        obtain ⟨x, y, z, rfl⟩ := three_of hl
        refine ⟨x, 20, 20, rfl, ha.1, by decide, by decide, fun c1 => ?_, fun c1 => ?_⟩
        · have e : areRules (.tup [x, y, z]) = false := by
            have : isPart x 20 20 = false := by simpa using c1
            simp only [areRules, this, Bool.false_and]
          rw [e] at hQ
          exact Ret.of hQ
        · have p1 : isPart x 20 20 = true := by simpa using c1
          obtain ⟨t, d, rfl, t0, t1, d0, d1, e0⟩ := part_of p1
          have key : areRules (.tup [.tup [.int t, .int d], y, z]) = (decide (0 < t) && decide (t < d) && isPart y 1000 20 && isWithin z 1 6) := by
            simp only [areRules, p1, below, Bool.true_and, Bool.and_assoc]
          rw [key] at hQ
          refine ⟨fun c2 => ?_, fun c2 => ?_⟩
          · refine ⟨fun c3 => ?_, fun c3 => ?_⟩
            · have : decide (t < d) = false := by simpa using c3
              rw [this, Bool.and_false, Bool.false_and, Bool.false_and] at hQ
              exact ⟨fun _ => Ret.of hQ, fun z => (by cases z)⟩
            · have : decide (t < d) = true := by simpa using c3
              rw [c2, this, Bool.true_and, Bool.true_and] at hQ
              refine ⟨y, 1000, 20, rfl, ha.2.1, by decide, by decide, fun c4 => ?_, fun c4 => ?_⟩
              · have : isPart y 1000 20 = false := by simpa using c4
                rw [this, Bool.false_and] at hQ
                exact Ret.of hQ
              · have : isPart y 1000 20 = true := by simpa using c4
                rw [this, Bool.true_and] at hQ
                exact ⟨z, 1, 6, rfl, ha.2.2.1, Ret.of hQ⟩
          · rw [c2, Bool.false_and, Bool.false_and, Bool.false_and] at hQ
            exact ⟨fun _ => ⟨fun _ => Ret.of hQ, fun z => (by cases z)⟩, fun z => (by cases z)⟩
    | _ => exact ⟨fun _ => ⟨fun _ => Ret.of hQ, fun c => (by cases c)⟩, fun c => (by cases c)⟩
abbrev s_is_size : Stmt := topS 12
abbrev N_is_size : List Str := ["thing"]
theorem sc_is_size : FnScope N_is_size ["thing"] (defScope s_is_size) := ⟨rfl, rfl, rfl, by decide +kernel, rfl, by decide +kernel, by decide +kernel⟩
set_option maxHeartbeats 4000000 in
theorem ok_is_size {P : Program} {w : World} {K : PySem.W.Frag} {mg : Str → Option Value} {base : Heap} (F : FunAt K mg "is_size" "is_size" s_is_size ["thing"]) (TX : Txt K mg) (D_is_part : DefOk P w K mg base 3 "is_part" ["thing", "most_top", "most_bottom"] sp_is_part) :
    DefOk P w K mg base 4 "is_size" ["thing"] sp_is_size := by
  refine okd F sc_is_size (fun ts G Q E h => ?len) (fun f cdv A outer s H E hr => ss_one (s_ret (e_and (e_callD D_is_part hr (by rfl) (a_cons (e_var 0) (a_cons (e_glI (by rfl) TX.c_MOST_TOP) (a_cons (e_glI (by rfl) TX.c_MOST_BOTTOM) a_nil)))) (pe_one (e_cmp o_gt (e_ix i_ixC (e_var 0) (e_int) (fun _ _ => rfl)) (e_int) (nomark _))))))
    (fun ts G Q E h => ?run)
  case len => obtain ⟨x, rfl, _⟩ := h; rfl
  case run =>
    obtain ⟨x, rfl, ha, hQ⟩ := h
    refine ⟨x, 1000000, 1000, rfl, ha, by decide, by decide, fun c => ?_, fun c => ?_⟩
    · obtain ⟨t, d, rfl, _⟩ := part_of c
      have e : isSize (.tup [.int t, .int d]) = decide (0 < t) := by simp only [isSize, c, Bool.true_and]
      rw [e] at hQ
      exact Ret.of hQ
    · have e : isSize x = false := by simp only [isSize, c, Bool.false_and]
      rw [e] at hQ
      exact Ret.of hQ
abbrev s_is_line : Stmt := topS 13
abbrev N_is_line : List Str := ["rules", "thing", "number"]
theorem sc_is_line : FnScope N_is_line ["rules", "thing"] (defScope s_is_line) := ⟨rfl, rfl, rfl, by decide +kernel, rfl, by decide +kernel, by decide +kernel⟩
set_option maxHeartbeats 4000000 in
theorem ok_is_line {P : Program} {w : World} {K : PySem.W.Frag} {mg : Str → Option Value} {base : Heap} (F : FunAt K mg "is_line" "is_line" s_is_line ["rules", "thing"]) (TX : Txt K mg) (D_is_within : DefOk P w K mg base 2 "is_within" ["thing", "least", "most"] sp_is_within) :
    DefOk P w K mg base 3 "is_line" ["rules", "thing"] sp_is_line := by
  refine okd F sc_is_line (fun ts G Q E h => ?len) (fun f cdv A outer s H E hr => ss_cons (s_if (PW.pt (w_or (t_not (t_tr (e_callB b_isi (by rfl) TX.n_isinstance (by decide +kernel) (a_cons (e_var 1) (a_cons (e_ty .tuple (by rfl) TX.n_tuple (by decide +kernel)) a_nil))))) (pw_or1 (t_cmp o_gt (e_callB b_len (by rfl) TX.n_len (by decide +kernel) (a_cons (e_var 1) a_nil)) (e_glI (by rfl) TX.c_MOST_LINE) (nomark _))))) (ss_one (s_ret (e_bl))) (ss_nil))
    (ss_one (s_ret (e_callB (b_all rfl) (by rfl) TX.n_all (by decide +kernel) (a_cons (e_lc (own := [("number", 2)]) rfl sc_is_line.nd (i_seq (e_var 1)) (blkOk_by (N := N_is_line) (sc := defScope s_is_line) (own := [("number", 2)]) (by decide +kernel)) (fun _ _ _ _ _ => g_name (i := 2) sc_is_line.nd rfl (by first | exact Or.inl rfl | exact Or.inr rfl)) (fun _ _ _ _ _ => ts_nil) (fun _ _ _ _ _ => e_callD D_is_within hr (by rfl) (a_cons (e_var 2) (a_cons (e_int) (a_cons (e_op o_sub (e_ix i_ixC (e_var 0) (e_int) (fun _ _ => rfl)) (e_int)) a_nil))))) a_nil)))))
    (fun ts G Q E h => ?run)
  case len => obtain ⟨r, x, rfl, _⟩ := h; rfl
  case run =>
    obtain ⟨r, x, rfl, ha, hQ⟩ := h
    cases x with
    | ref p =>
      obtain ⟨xs, hx⟩ := ha
      exact ⟨xs, hx, fun _ => ⟨fun _ => Ret.of hQ, fun c => (by cases c)⟩, fun c => (by cases c)⟩
    | ty n => exact ha.elim
    | scr n => exact ha.elim
    | tup us =>
      refine ⟨fun c => (by cases c), fun _ => ?_⟩
      refine ⟨fun c => ?_, fun c => ?_⟩
      · have hl : ¬ us.length ≤ 40 := by have := of_decide_eq_true c; omega
        have e : isLine r.2.2 (.tup us) = false := by simp only [isLine, decide_eq_false hl, Bool.false_and]
        rw [e] at hQ
        exact Ret.of hQ
      · have hl : us.length ≤ 40 := by have := of_decide_eq_false c; omega
        have e : isLine r.2.2 (.tup us) = us.all fun x => isWithin x 0 (r.2.2 - 1) := by simp only [isLine, decide_eq_true hl, Bool.true_and]
        rw [e] at hQ
        intro D hD
        refine ⟨by omega, fun k acc G' => acc = (us.take k).map (fun x => T.bl (isWithin x 0 (r.2.2 - 1))) ∧ Sub G G' ∧ G' D = some (.lst acc), ⟨rfl, (Sub.refl _).new hD, gput_same⟩, ?_, ?_, ?_⟩
        · rintro k acc G' hk ⟨rfl, s, e⟩
          exact ⟨trivial, e, by rw [List.length_map, List.length_take]; omega⟩
        · rintro k t acc G' ht ⟨rfl, s, e⟩
          refine ⟨fun _ => ?_, fun z => by cases z⟩
          refine ⟨t, 0, r.2.2 - 1, rfl, AnyT.sub s _ (anyTs_mem ha t (List.mem_of_getElem? ht)), ?_⟩
          refine ⟨e, _, Sub.refl _, ?_, s.mut hD, gput_same⟩
          rw [take_one ht, List.map_append]; rfl
        · rintro acc G' ⟨rfl, s, e⟩
          rw [List.take_length] at e
          refine ⟨us.map fun x => isWithin x 0 (r.2.2 - 1), by rw [e, List.map_map]; rfl, ?_⟩
          refine ⟨G, s, ?_⟩
          rw [List.all_map]
          exact hQ
    | _ => exact ⟨fun _ => ⟨fun _ => Ret.of hQ, fun c => (by cases c)⟩, fun c => (by cases c)⟩
abbrev s_law_bag : Stmt := topS 15
abbrev N_law_bag : List Str := ["script", "k", "cell"]
theorem sc_law_bag : FnScope N_law_bag ["script", "k"] (defScope s_law_bag) := ⟨rfl, rfl, rfl, by decide +kernel, rfl, by decide +kernel, by decide +kernel⟩
set_option maxHeartbeats 4000000 in
theorem ok_law_bag {P : Program} {w : World} {K : PySem.W.Frag} {mg : Str → Option Value} {base : Heap} (F : FunAt K mg "_law_bag" "_law_bag" s_law_bag ["script", "k"]) (TX : Txt K mg)  :
    DefOk P w K mg base 1 "_law_bag" ["script", "k"] sp_law_bag := by
  refine okd F sc_law_bag (fun ts G Q E h => ?len) (fun f cdv A outer s H E hr => ss_cons (s_set (i := 2) sc_law_bag.nd rfl (by first | exact Or.inl rfl | exact Or.inr rfl) (e_int))
    (ss_cons (s_if (t_cmp (o_lt2 (un66 hr)) (e_var 1) (e_callB b_len (by rfl) TX.n_len (by decide +kernel) (a_cons (e_var 0) a_nil)) (nomark _)) (ss_one (s_set (i := 2) sc_law_bag.nd rfl (by first | exact Or.inl rfl | exact Or.inr rfl) (e_callB b_abs (by rfl) TX.n_abs (by decide +kernel) (a_cons (e_ix i_ix (e_var 0) (e_var 1) (fun _ _ => rfl)) a_nil)))) (ss_nil))
    (ss_cons (s_if (t_cmp (o_lt2 (un66 hr)) (e_var 2) (e_op o_pow (e_int) (e_int)) (nomark _)) (ss_one (s_ret (e_lst (a_cons (e_int) (a_cons (e_op o_add (e_int) (e_op o_mod (e_op o_add (e_op o_mul (e_var 2) (e_int)) (e_op o_mul (e_int) (e_var 1))) (e_int))) a_nil))))) (ss_nil))
    (ss_one (s_ret (e_lst (a_cons (e_var 2) (a_cons (e_op o_add (e_int) (e_op o_mod (e_op o_add (e_var 2) (e_var 1)) (e_int))) a_nil))))))))
    (fun ts G Q E h => ?run)
  case len => unfold sp_law_bag at h; split at h <;> first | rfl | exact h.elim
  case run =>
    unfold sp_law_bag at h
    split at h
    · rename_i ns k
      obtain ⟨⟨h0, h1, hn⟩, hQ⟩ := h
      -- behind the choice of the cell
      have go : ∀ c : Int, 0 ≤ c → ∀ ρ : REnv, ρ = [some (.scr ns), some (.int k), some (.int c)] → (qIfS (qTB (qOp fLt (qVar 2) (qOp fPow (qC (.int 10)) (qC (.int 18)))))
          (qRet (qLst (qCons (qC (.int 0)) (qCons (qOp fAdd (qC (.int 1)) (qOp fMod (qOp fAdd (qOp fMulT (qVar 2) (qC (.int 7919))) (qOp fMulT (qC (.int 104729)) (qVar 1))) (qC (.int 2147483646)))) qNil)))) qNext)
          { endOf Q with nx := qRet (qLst (qCons (qVar 2) (qCons (qOp fAdd (qC (.int 1)) (qOp fMod (qOp fAdd (qVar 2) (qVar 1)) (qC (.int 2147483646)))) qNil))) (endOf Q) } ρ G := by
        rintro c hc ρ rfl
        refine ⟨⟨by decide, by decide, by decide⟩, fun b => ?_, fun b => ?_⟩
        · have hb : c < 1000000000000000000 := of_decide_eq_true b
          refine ⟨mulOk 64 64 (by omega) (by decide) (by decide), mulOk 64 64 (by decide) (by omega) (by decide), by decide, fun p hp => ?_⟩
          have m0 := Int.emod_nonneg (c * 7919 + 104729 * k) (show (2147483646 : Int) ≠ 0 by decide)
          have m1 := Int.emod_lt_of_pos (c * 7919 + 104729 * k) (show (0 : Int) < 2147483646 by decide)
          exact Ret.of (hQ p 0 _ hp ⟨by omega, by omega, by omega⟩)
        · refine ⟨by decide, fun p hp => ?_⟩
          have m0 := Int.emod_nonneg (c + k) (show (2147483646 : Int) ≠ 0 by decide)
          have m1 := Int.emod_lt_of_pos (c + k) (show (0 : Int) < 2147483646 by decide)
          exact Ret.of (hQ p c _ hp ⟨hc, by omega, by omega⟩)
      refine ⟨fun c => ?_, fun c => ?_⟩
      · have hk : k < ns.length := of_decide_eq_true c
        refine ⟨k.toNat, ns[k.toNat]'(by omega), ?_, List.getElem?_eq_getElem (by omega), ?_⟩
        · have := ixN_nat (n := k.toNat) (len := ns.length) (by omega)
          rw [show Int.ofNat k.toNat = k by show ((k.toNat : Nat) : Int) = k; omega] at this
          exact this
        · refine go _ ?_ _ rfl
          split <;> omega
      · exact go 0 (Int.le_refl 0) _ rfl
    · exact h.elim
abbrev s_law_take : Stmt := topS 16
abbrev N_law_take : List Str := ["bag", "many", "found"]
theorem sc_law_take : FnScope N_law_take ["bag", "many"] (defScope s_law_take) := ⟨rfl, rfl, rfl, by decide +kernel, rfl, by decide +kernel, by decide +kernel⟩
set_option maxHeartbeats 4000000 in
theorem ok_law_take {P : Program} {w : World} {K : PySem.W.Frag} {mg : Str → Option Value} {base : Heap} (F : FunAt K mg "_law_take" "_law_take" s_law_take ["bag", "many"]) (TX : Txt K mg)  :
    DefOk P w K mg base 1 "_law_take" ["bag", "many"] sp_law_take := by
  refine okd F sc_law_take (fun ts G Q E h => ?len) (fun f cdv A outer s H E hr => ss_cons (s_if (t_cmp o_gt (e_ix i_ixC (e_var 0) (e_int) (fun _ _ => rfl)) (e_int) (nomark _)) (ss_cons (s_set (i := 2) sc_law_take.nd rfl (by first | exact Or.inl rfl | exact Or.inr rfl) (e_op o_mod (e_ix i_ixC (e_var 0) (e_int) (fun _ _ => rfl)) (e_var 1)))
    (ss_cons (s_asg (own := []) (e_op o_div (e_ix i_ixC (e_var 0) (e_int) (fun _ _ => rfl)) (e_var 1)) (g_sub (e_var 0) (e_int) set_lst))
    (ss_one (s_ret (e_var 2))))) (ss_nil))
    (ss_cons (s_asg (own := []) (e_op o_mod (e_op o_mul (e_ix i_ixC (e_var 0) (e_int) (fun _ _ => rfl)) (e_int)) (e_int)) (g_sub (e_var 0) (e_int) set_lst))
    (ss_one (s_ret (e_op o_mod (e_op o_div (e_op o_mod (e_op o_mul (e_ix i_ixC (e_var 0) (e_int) (fun _ _ => rfl)) (e_ix i_ixC (e_var 0) (e_int) (fun _ _ => rfl))) (e_int)) (e_int)) (e_var 1))))))
    (fun ts G Q E h => ?run)
  case len => unfold sp_law_take at h; split at h <;> first | rfl | exact h.elim
  case run =>
    unfold sp_law_take at h
    split at h
    · rename_i b m
      obtain ⟨⟨⟨c1, c2, hb, ok⟩, m0, m1⟩, hQ⟩ := h
      have hd : DivOk m := divOk 64 m0 (by omega) (by decide)
      refine ⟨_, hb, fun c => ?_, fun c => ?_⟩
      · have hc : 0 < c1 := of_decide_eq_true c
        refine ⟨_, hb, m0, _, hb, hd, _, 0, hb, rfl, ?_⟩
        exact Ret.of (hQ _ _ (Int.emod_nonneg _ (by omega)) (Int.emod_lt_of_pos _ m0) ⟨c1 / m, c2, ⟨Int.ediv_nonneg ok.h1 (by omega), ok.h2, ok.h3⟩, rfl⟩)
      · have a0 := Int.emod_nonneg (c2 * 48271) (show (2147483647 : Int) ≠ 0 by decide)
        have a1 := Int.emod_lt_of_pos (c2 * 48271) (show (0 : Int) < 2147483647 by decide)
        have n2 : c2.natAbs < 2 ^ 64 := by have := ok.h2; have := ok.h3; omega
        refine ⟨_, hb, mulOk 64 64 n2 (by decide) (by decide), by decide, _, 1, hb, rfl, ?_⟩
        have n3 : (c2 * 48271 % 2147483647).natAbs < 2 ^ 64 := by omega
        refine ⟨_, gput_same, _, gput_same, mulOk 64 64 n3 n3 (by decide), by decide, divOk 7 (by decide) (by decide) (by decide), m0, ?_⟩
        exact Ret.of (hQ _ _ (Int.emod_nonneg _ (by omega)) (Int.emod_lt_of_pos _ m0) ⟨c1, _, ⟨ok.h1, a0, a1⟩, rfl⟩)
    · exact h.elim
abbrev s_law_of : Stmt := topS 17
abbrev N_law_of : List Str := ["bag", "some"]
theorem sc_law_of : FnScope N_law_of ["bag", "some"] (defScope s_law_of) := ⟨rfl, rfl, rfl, by decide +kernel, rfl, by decide +kernel, by decide +kernel⟩
set_option maxHeartbeats 4000000 in
theorem ok_law_of {P : Program} {w : World} {K : PySem.W.Frag} {mg : Str → Option Value} {base : Heap} (F : FunAt K mg "_law_of" "_law_of" s_law_of ["bag", "some"]) (TX : Txt K mg) (D_law_take : DefOk P w K mg base 1 "_law_take" ["bag", "many"] sp_law_take) :
    DefOk P w K mg base 2 "_law_of" ["bag", "some"] sp_law_of := by
  refine okd F sc_law_of (fun ts G Q E h => ?len) (fun f cdv A outer s H E hr => ss_one (s_ret (e_ix i_ix (e_var 1) (e_callD D_law_take hr (by rfl) (a_cons (e_var 0) (a_cons (e_callB b_len (by rfl) TX.n_len (by decide +kernel) (a_cons (e_var 1) a_nil)) a_nil))) (fun _ _ => rfl))))
    (fun ts G Q E h => ?run)
  case len => obtain ⟨b, s, xs, rfl, _⟩ := h; rfl
  case run =>
    obtain ⟨b, s, xs, rfl, ⟨hb, hs, h0, h1⟩, hQ⟩ := h
    have t0 := BT.start hb
    have hl : 0 < xs.length := List.length_pos_iff.mpr h0
    rcases hs with rfl | ⟨a, rfl, hne, ha⟩
    · refine ⟨⟨hb, by omega, by omega⟩, fun x G1 l1 u1 g1 => ?_⟩
      have t1 := t0.to g1
      have hx : x.toNat < xs.length := by omega
      have hi := ixN_nat (n := x.toNat) (len := xs.length) hx
      rw [show Int.ofNat x.toNat = x by show ((x.toNat : Nat) : Int) = x; omega] at hi
      refine ⟨x.toNat, xs[x.toNat], hi, List.getElem?_eq_getElem hx, ?_⟩
      exact t1.ret fun G' g' => hQ _ (List.getElem_mem hx) G' g'
    · refine ⟨xs, ha, ⟨hb, by omega, by omega⟩, fun x G1 l1 u1 g1 => ?_⟩
      have t1 := t0.to g1
      have hx : x.toNat < xs.length := by omega
      have hi := ixN_nat (n := x.toNat) (len := xs.length) hx
      rw [show Int.ofNat x.toNat = x by show ((x.toNat : Nat) : Int) = x; omega] at hi
      refine ⟨xs, x.toNat, xs[x.toNat], by rw [g1.ne hne]; exact ha, hi, List.getElem?_eq_getElem hx, ?_⟩
      exact t1.ret fun G' g' => hQ _ (List.getElem_mem hx) G' g'
abbrev s_law_within : Stmt := topS 18
abbrev N_law_within : List Str := ["thing", "least", "most"]
theorem sc_law_within : FnScope N_law_within ["thing", "least", "most"] (defScope s_law_within) := ⟨rfl, rfl, rfl, by decide +kernel, rfl, by decide +kernel, by decide +kernel⟩
set_option maxHeartbeats 4000000 in
theorem ok_law_within {P : Program} {w : World} {K : PySem.W.Frag} {mg : Str → Option Value} {base : Heap} (F : FunAt K mg "_law_within" "_law_within" s_law_within ["thing", "least", "most"]) (TX : Txt K mg)  :
    DefOk P w K mg base 1 "_law_within" ["thing", "least", "most"] sp_law_within := by
  refine okd F sc_law_within (fun ts G Q E h => ?len) (fun f cdv A outer s H E hr => ss_one (s_ret (e_and (e_callB b_isi (by rfl) TX.n_isinstance (by decide +kernel) (a_cons (e_var 0) (a_cons (e_ty .int (by rfl) TX.n_int (by decide +kernel)) a_nil))) (e_and (e_not (e_callB b_isi (by rfl) TX.n_isinstance (by decide +kernel) (a_cons (e_var 0) (a_cons (e_ty .bool (by rfl) TX.n_bool (by decide +kernel)) a_nil)))) (pe_one (e_chain o_le o_le (e_var 1) (e_var 0) (e_var 2)))))))
    (fun ts G Q E h => ?run)
  case len => obtain ⟨x, a, b, rfl, _⟩ := h; rfl
  case run =>
    obtain ⟨x, a, b, rfl, ha, hQ⟩ := h
    cases x with
    | int i =>
      refine ⟨fun _ => ?_, fun c => (by cases c)⟩
      refine ⟨fun _ => ?_, fun c => (by cases c)⟩
      refine ⟨fun h1 => ?_, fun h1 => ?_⟩
      · have e : isWithin (.int i) a b = decide (i ≤ b) := by simp only [isWithin, h1, Bool.true_and]
        rw [e] at hQ
        exact Ret.of hQ
      · have e : isWithin (.int i) a b = false := by simp only [isWithin, h1, Bool.false_and]
        rw [e] at hQ
        exact Ret.of hQ
    | bl c =>
      refine ⟨fun _ => ?_, fun c => (by cases c)⟩
      exact ⟨fun c => (by cases c), fun _ => Ret.of hQ⟩
    | ref p =>
      obtain ⟨xs, hx⟩ := ha
      exact ⟨xs, hx, fun c => (by cases c), fun _ => Ret.of hQ⟩
    | ty n => exact ha.elim
    | scr n => exact ha.elim
    | _ => exact ⟨fun c => (by cases c), fun _ => Ret.of hQ⟩
abbrev s_law_odd : Stmt := topS 20
abbrev N_law_odd : List Str := ["bag", "some"]
theorem sc_law_odd : FnScope N_law_odd ["bag"] (defScope s_law_odd) := ⟨rfl, rfl, rfl, by decide +kernel, rfl, by decide +kernel, by decide +kernel⟩
set_option maxHeartbeats 4000000 in
theorem ok_law_odd {P : Program} {w : World} {K : PySem.W.Frag} {mg : Str → Option Value} {base : Heap} (F : FunAt K mg "_law_odd" "_law_odd" s_law_odd ["bag"]) (TX : Txt K mg) (D_law_take : DefOk P w K mg base 1 "_law_take" ["bag", "many"] sp_law_take) :
    DefOk P w K mg base 2 "_law_odd" ["bag"] sp_law_odd := by
  refine okd F sc_law_odd (fun ts G Q E h => ?len) (fun f cdv A outer s H E hr => ss_cons (s_set (i := 1) sc_law_odd.nd rfl (by first | exact Or.inl rfl | exact Or.inr rfl) (e_lst (a_cons (e_non) (a_cons (e_bl) (a_cons (e_bl) (a_cons (e_int) (a_cons (e_int) (a_cons (e_neg (e_int)) (a_cons (e_int) (a_cons (e_op o_pow (e_int) (e_int)) (a_cons (e_str) (a_cons (e_str) (a_cons (e_str) (a_cons (e_tup (a_nil)) (a_cons (e_lst (a_nil)) (a_cons (e_tup (a_cons (e_int) (a_cons (e_int) a_nil))) (a_cons (e_tup (a_cons (e_int) (a_cons (e_int) a_nil))) (a_cons (e_tup (a_cons (e_non) a_nil)) (a_cons (e_tup (a_cons (e_int) (a_cons (e_int) a_nil))) a_nil)))))))))))))))))))
    (ss_cons (s_set (i := 1) sc_law_odd.nd rfl (by first | exact Or.inl rfl | exact Or.inr rfl) (e_op o_add (e_var 1) (e_lst (a_cons (e_tup (a_cons (e_tup (a_cons (e_str) (a_cons (e_tup (a_cons (e_str) a_nil)) a_nil))) a_nil)) (a_cons (e_tup (a_cons (e_str) (a_cons (e_tup (a_cons (e_str) a_nil)) a_nil))) (a_cons (e_lst (a_cons (e_tup (a_cons (e_str) (a_cons (e_int) a_nil))) a_nil)) (a_cons (e_lst (a_cons (e_tup (a_cons (e_str) (a_cons (e_int) a_nil))) a_nil)) (a_cons (e_tup (a_cons (e_tup (a_cons (e_int) (a_cons (e_int) a_nil))) (a_cons (e_tup (a_cons (e_int) (a_cons (e_int) a_nil))) (a_cons (e_int) a_nil)))) a_nil))))))))
    (ss_one (s_ret (e_ix i_ix (e_var 1) (e_callD D_law_take hr (by rfl) (a_cons (e_var 0) (a_cons (e_callB b_len (by rfl) TX.n_len (by decide +kernel) (a_cons (e_var 1) a_nil)) a_nil))) (fun _ _ => rfl))))))
    (fun ts G Q E h => ?run)
  case len => obtain ⟨b, av, rfl, _⟩ := h; rfl
  case run =>
    obtain ⟨b, av, rfl, hm, hkn, hb, hQ⟩ := h
    have t0 := BT.start hb
    refine ⟨⟨by decide, by decide, by decide⟩, ?_⟩
    intro p1 hp1
    have t1 := t0.new (o := .lst []) hp1
    refine ⟨(show 17 ≤ 100000 by decide), fun p2 hp2 => ?_⟩
    generalize hA : ([T.non, .bl true, .bl false, .int 0, .int 1, .int (-1), .int 5, .int (10 ^ Int.toNat 30), .str "", .str "a", .str "mould", .tup [], .ref p1, .tup [.int 1, .int 2], .tup [.int 2, .int 4], .tup [.non], .tup [.int 0, .int 1]] : List T) = A at *
    have t2 := t1.new (o := .lst A) hp2
    intro p3 hp3
    have t3 := t2.new (o := .lst [.tup [.str "mould", .int 0]]) hp3
    intro p4 hp4
    have t4 := t3.new (o := .lst [.tup [.str "cast", .int 0]]) hp4
    intro p5 hp5
    generalize hB : ([T.tup [.tup [.str "a", .tup [.str "ink"]]], .tup [.str "a", .tup [.str "ink"]], .ref p3, .ref p4, .tup [.tup [.int 1, .int 2], .tup [.int 0, .int 1], .int 3]] : List T) = B at *
    have t5 := t4.new (o := .lst B) hp5
    have lA : A.length = 17 := by rw [← hA]; rfl
    have lB : B.length = 5 := by rw [← hB]; rfl
    have e2 : gput (gput (gput (gput (gput G p1 (.lst [])) p2 (.lst A)) p3 (.lst [.tup [.str "mould", .int 0]])) p4 (.lst [.tup [.str "cast", .int 0]])) p5 (.lst B) p2 = some (.lst A) := ((((Sub.refl _).new hp3).new hp4).new hp5) _ _ gput_same
    refine ⟨A, B, e2, gput_same, by omega, fun p6 hp6 => ?_⟩
    have t6 := t5.new (o := .lst (A ++ B)) hp6
    refine ⟨_, gput_same, ⟨t6.bag, by rw [List.length_append]; omega, by rw [List.length_append]; omega⟩, fun x G7 l7 u7 g7 => ?_⟩
    have t7 := t6.to g7
    have hx : x.toNat < (A ++ B).length := by rw [List.length_append] at u7 ⊢; omega
    have hi := ixN_nat (n := x.toNat) (len := (A ++ B).length) hx
    rw [show Int.ofNat x.toNat = x by show ((x.toNat : Nat) : Int) = x; omega] at hi
    refine ⟨_, x.toNat, (A ++ B)[x.toNat], ((g7.ne (bag_new t5.bag hp6).symm).trans gput_same), hi, List.getElem?_eq_getElem hx, ?_⟩
    refine Ret.of (hQ _ _ t7 ?_)
    have n1 : p1 ∉ av := hkn.new hp1
    have s4 : Sub G (gput (gput (gput (gput G p1 (.lst [])) p2 (.lst A)) p3 (.lst [.tup [.str "mould", .int 0]])) p4 (.lst [.tup [.str "cast", .int 0]])) := ((((Sub.refl _).new hp1).new hp2).new hp3).new hp4
    have n3 : p3 ∉ av := hkn.new ((((Sub.refl _).new hp1).new hp2).free hp3)
    have n4 : p4 ∉ av := hkn.new (((((Sub.refl _).new hp1).new hp2).new hp3).free hp4)
    have up : ∀ a o, a ≠ b → gput (gput (gput (gput (gput (gput G p1 (.lst [])) p2 (.lst A)) p3 (.lst [.tup [.str "mould", .int 0]])) p4 (.lst [.tup [.str "cast", .int 0]])) p5 (.lst B)) p6 (.lst (A ++ B)) a = some o → G7 a = some o := fun a o n e => (g7.ne n).trans e
    have q1 : G7 p1 = some (.lst []) := up _ _ (fun z => n1 (by rw [z]; exact hm)) (((((((Sub.refl _).new hp2).new hp3).new hp4).new hp5).new hp6) _ _ gput_same)
    have q3 : G7 p3 = some (.lst [.tup [.str "mould", .int 0]]) := up _ _ (fun z => n3 (by rw [z]; exact hm)) (((((Sub.refl _).new hp4).new hp5).new hp6) _ _ gput_same)
    have q4 : G7 p4 = some (.lst [.tup [.str "cast", .int 0]]) := up _ _ (fun z => n4 (by rw [z]; exact hm)) ((((Sub.refl _).new hp5).new hp6) _ _ gput_same)
    have S : ∀ {x : Str} {n : Nat}, x.length ≤ 350 → Dat av G7 1 n (.str x) := fun h => Dat.str.mpr (by show _ + 100 ≤ 150 * 3; omega)
    have I : ∀ {i : Int} {n : Nat}, i.natAbs < 2 ^ 121 → Dat av G7 1 n (.int i) := fun h => Dat.int.mpr h
    have z1 : (("" : Str)).length ≤ 350 := by decide
    have z2 : (("a" : Str)).length ≤ 350 := by decide
    have z3 : (("mould" : Str)).length ≤ 350 := by decide
    have z4 : (("ink" : Str)).length ≤ 350 := by decide
    have z5 : (("cast" : Str)).length ≤ 350 := by decide
    have N : ∀ n, Dat av G7 1 (n + 1) (.tup []) := fun n => ⟨by decide, fun t h => by cases h⟩
    have C : ∀ {n : Nat} {t : T} {ts : List T}, ts.length < 100 → Dat av G7 1 n t → Dat av G7 1 (n + 1) (.tup ts) → Dat av G7 1 (n + 1) (.tup (t :: ts)) := fun h1 h2 h3 => ⟨by rw [List.length_cons]; omega, fun u hu => by
      rcases List.mem_cons.mp hu with e | e
      · rw [e]; exact h2
      · exact h3.2 u e⟩
    have all : ∀ t ∈ A ++ B, Dat av G7 1 3 t := by
      intro t ht
      rw [← hA, ← hB] at ht
      simp only [List.cons_append, List.nil_append, List.mem_cons, List.not_mem_nil, or_false] at ht
      have k1 : (0 : Int).natAbs < 2 ^ 121 := by decide
      have k2 : (1 : Int).natAbs < 2 ^ 121 := by decide
      have k3 : (2 : Int).natAbs < 2 ^ 121 := by decide
      have k4 : (3 : Int).natAbs < 2 ^ 121 := by decide
      have k5 : (4 : Int).natAbs < 2 ^ 121 := by decide
      have d12 : ∀ n, Dat av G7 1 (n + 1) (.tup [.int 1, .int 2]) := fun n => C (by decide) (I k2) (C (by decide) (I k3) (N _))
      have d01 : ∀ n, Dat av G7 1 (n + 1) (.tup [.int 0, .int 1]) := fun n => C (by decide) (I k1) (C (by decide) (I k2) (N _))
      have da : ∀ n, Dat av G7 1 (n + 2) (.tup [.str "a", .tup [.str "ink"]]) := fun n => C (by decide) (S z2) (C (by decide) (C (by decide) (S z4) (N _)) (N _))
      rcases ht with rfl | rfl | rfl | rfl | rfl | rfl | rfl | rfl | rfl | rfl | rfl | rfl | rfl | rfl | rfl | rfl | rfl | rfl | rfl | rfl | rfl | rfl
      · exact Dat.non
      · exact Dat.bl
      · exact Dat.bl
      · exact I k1
      · exact I k2
      · exact I (by decide)
      · exact I (by decide)
      · exact I (by decide +kernel)
      · exact S z1
      · exact S z2
      · exact S z3
      · exact N _
      · exact ⟨n1, _, q1, by decide, fun t h => by cases h⟩
      · exact d12 _
      · exact C (by decide) (I k3) (C (by decide) (I k5) (N _))
      · exact C (by decide) Dat.non (N _)
      · exact d01 _
      · exact C (by decide) (da _) (N _)
      · exact da _
      · exact ⟨n3, _, q3, by decide, fun t h => by
          rw [List.mem_singleton.mp h]
          exact C (by decide) (S z3) (C (by decide) (I k1) (N _))⟩
      · exact ⟨n4, _, q4, by decide, fun t h => by
          rw [List.mem_singleton.mp h]
          exact C (by decide) (S z5) (C (by decide) (I k1) (N _))⟩
      · exact C (by decide) (d12 _) (C (by decide) (d01 _) (C (by decide) (I k4) (N _)))
    exact all _ (List.getElem_mem hx)
abbrev s_law_spoilt : Stmt := topS 19
abbrev N_law_spoilt : List Str := ["bag", "thing", "kind_so", "rows", "at", "other"]
theorem sc_law_spoilt : FnScope N_law_spoilt ["bag", "thing"] (defScope s_law_spoilt) := ⟨rfl, rfl, rfl, by decide +kernel, rfl, by decide +kernel, by decide +kernel⟩
theorem okr_law_spoilt {P : Program} {w : World} {K : PySem.W.Frag} {mg : Str → Option Value} {base : Heap} (F : FunAt K mg "_law_spoilt" "_law_spoilt" s_law_spoilt ["bag", "thing"]) (TX : Txt K mg) (D_law_take : DefOk P w K mg base 1 "_law_take" ["bag", "many"] sp_law_take) (D_law_odd : DefOk P w K mg base 2 "_law_odd" ["bag"] sp_law_odd) : ∀ n : Nat, DefOk P w K mg base (3 + n) "_law_spoilt" ["bag", "thing"] (sp_law_spoilt n) := by
  intro n
  induction n with
  | zero => exact okd (k := 2) F sc_law_spoilt (fun ts G Q E h => (sp_law_spoilt_none h).elim) (fun f cdv A outer s H E hr => ss_never) (fun ts G Q E h => (sp_law_spoilt_none h).elim)
  | succ n D_law_spoilt =>
    refine okd (k := 3 + n) F sc_law_spoilt (fun ts G Q E h => ?len) (fun f cdv A outer s H E hr => ss_cons (s_set (i := 2) sc_law_spoilt.nd rfl (by first | exact Or.inl rfl | exact Or.inr rfl) (e_callD D_law_take (hr.mono (by omega)) (by rfl) (a_cons (e_var 0) (a_cons (e_int) a_nil))))
    (ss_cons (s_if (PW.pt (w_and (t_tr (e_callB b_isi (by rfl) TX.n_isinstance (by decide +kernel) (a_cons (e_var 1) (a_cons (e_tup (a_cons (e_ty .tuple (by rfl) TX.n_tuple (by decide +kernel)) (a_cons (e_ty .list (by rfl) TX.n_list (by decide +kernel)) a_nil))) a_nil)))) (w_and (t_cmp o_gt (e_callB b_len (by rfl) TX.n_len (by decide +kernel) (a_cons (e_var 1) a_nil)) (e_int) (nomark _)) (pw_and1 (t_cmp o_gt (e_var 2) (e_int) (nomark _)))))) (ss_cut (s_set (i := 3) sc_law_spoilt.nd rfl (by first | exact Or.inl rfl | exact Or.inr rfl) (e_callTy b_list (by rfl) TX.n_list (by decide +kernel) (a_cons (e_var 1) a_nil)))
    (ss_cons (s_set (i := 4) sc_law_spoilt.nd rfl (by first | exact Or.inl rfl | exact Or.inr rfl) (e_callD D_law_take (hr.mono (by omega)) (by rfl) (a_cons (e_var 0) (a_cons (e_callB b_len (by rfl) TX.n_len (by decide +kernel) (a_cons (e_var 3) a_nil)) a_nil))))
    (ss_cut (s_if (t_cmp (o_eq hr.units) (e_var 2) (e_int) (nomark _)) (ss_one (s_set (i := 3) sc_law_spoilt.nd rfl (by first | exact Or.inl rfl | exact Or.inr rfl) (e_op o_add (e_slice sl_seq (e_var 3) (o_none) (o_some (e_var 4))) (e_slice sl_seq (e_var 3) (o_some (e_op o_add (e_var 4) (e_int))) (o_none))))) (ss_one (s_if (t_cmp (o_eq hr.units) (e_var 2) (e_int) (nomark _)) (ss_one (s_set (i := 3) sc_law_spoilt.nd rfl (by first | exact Or.inl rfl | exact Or.inr rfl) (e_op o_add (e_slice sl_seq (e_var 3) (o_none) (o_some (e_op o_add (e_var 4) (e_int)))) (e_slice sl_seq (e_var 3) (o_some (e_var 4)) (o_none))))) (ss_one (s_if (t_cmp (o_eq hr.units) (e_var 2) (e_int) (nomark _)) (ss_cons (s_set (i := 5) sc_law_spoilt.nd rfl (by first | exact Or.inl rfl | exact Or.inr rfl) (e_callD D_law_take (hr.mono (by omega)) (by rfl) (a_cons (e_var 0) (a_cons (e_callB b_len (by rfl) TX.n_len (by decide +kernel) (a_cons (e_var 3) a_nil)) a_nil))))
    (ss_one (s_asg (own := []) (e_tup (a_cons (e_ix i_ix (e_var 3) (e_var 5) (fun _ _ => rfl)) (a_cons (e_ix i_ix (e_var 3) (e_var 4) (fun _ _ => rfl)) a_nil))) (g_tup (n := 2) rfl (gs_cons (g_sub (e_var 3) (e_var 4) set_lst) (gs_cons (g_sub (e_var 3) (e_var 5) set_lst) (gs_nil))))))) (ss_one (s_if (t_cmp (o_eq hr.units) (e_var 2) (e_int) (nomark _)) (ss_one (s_ret (e_if (t_tr (e_callB b_isi (by rfl) TX.n_isinstance (by decide +kernel) (a_cons (e_var 1) (a_cons (e_ty .tuple (by rfl) TX.n_tuple (by decide +kernel)) a_nil)))) (e_var 3) (e_callTy b_tuple (by rfl) TX.n_tuple (by decide +kernel) (a_cons (e_var 3) a_nil))))) (ss_one (s_asg (own := []) (e_callD D_law_spoilt hr (by rfl) (a_cons (e_var 0) (a_cons (e_ix i_ix (e_var 3) (e_var 4) (fun _ _ => rfl)) a_nil))) (g_sub (e_var 3) (e_var 4) set_lst))))))))))
    (ss_one (s_ret (e_if (t_tr (e_callB b_isi (by rfl) TX.n_isinstance (by decide +kernel) (a_cons (e_var 1) (a_cons (e_ty .tuple (by rfl) TX.n_tuple (by decide +kernel)) a_nil)))) (e_callTy b_tuple (by rfl) TX.n_tuple (by decide +kernel) (a_cons (e_var 3) a_nil)) (e_var 3))))))) (ss_nil))
    (ss_cons (s_if (PW.pt (w_and (t_tr (e_callB b_isi (by rfl) TX.n_isinstance (by decide +kernel) (a_cons (e_var 1) (a_cons (e_ty .str (by rfl) TX.n_str (by decide +kernel)) a_nil)))) (pw_and1 (t_cmp o_gt (e_var 2) (e_int) (nomark _))))) (ss_one (s_ret (e_ix i_ix (e_lst (a_cons (e_op o_add (e_var 1) (e_str)) (a_cons (e_slice sl_seq (e_var 1) (o_none) (o_some (e_neg (e_int)))) (a_cons (e_op o_add (e_var 1) (e_str)) (a_cons (e_upper (e_var 1)) (a_cons (e_op o_add (e_var 1) (e_var 1)) (a_cons (e_op o_add (e_str) (e_var 1)) (a_cons (e_str) a_nil)))))))) (e_op o_sub (e_var 2) (e_int)) (fun _ _ => rfl)))) (ss_nil))
    (ss_cons (s_if (PW.pt (w_and (t_tr (e_callB b_isi (by rfl) TX.n_isinstance (by decide +kernel) (a_cons (e_var 1) (a_cons (e_ty .int (by rfl) TX.n_int (by decide +kernel)) a_nil)))) (pw_and1 (t_cmp o_gt (e_var 2) (e_int) (nomark _))))) (ss_one (s_ret (e_ix i_ix (e_lst (a_cons (e_op o_addN (e_var 1) (e_int)) (a_cons (e_op o_subN (e_var 1) (e_int)) (a_cons (e_negN (e_var 1)) (a_cons (e_op o_addN (e_var 1) (e_int)) (a_cons (e_callTy b_str (by rfl) TX.n_str (by decide +kernel) (a_cons (e_var 1) a_nil)) (a_cons (e_op o_addN (e_var 1) (e_int)) (a_cons (e_tup (a_cons (e_var 1) a_nil)) a_nil)))))))) (e_op o_sub (e_var 2) (e_int)) (fun _ _ => rfl)))) (ss_nil))
    (ss_one (s_ret (e_callD D_law_odd (hr.mono (by omega)) (by rfl) (a_cons (e_var 0) a_nil))))))))
      (fun ts G Q E h => ?run)
    case len => obtain ⟨b, av, x, m, k, rfl, _⟩ := h; rfl
    case run =>
      obtain ⟨b, av, x, m, k, rfl, hm, hk, hav, hkn, hb, hx, hQ⟩ := h
      refine ⟨⟨hb, by decide, by decide⟩, fun kd G1 lk uk g1 => ?_⟩
      have t1 := (BT.start hb).to g1
      have hx1 : Dat av G1 k m x := hx.off (Off.bt hav t1)
      have hk1 : Known av G1 := hkn.bt t1
      have odd : ∀ y G', BT b G1 G' → Dat av G' 1 3 y → Ret Q y G' := fun y G' t d => Ret.of (hQ y G' (t1.trans t) (d.mono (by omega) (fun _ z => z) (Off.refl _ _) (by omega)))
      cases x with
      | non =>
        refine ⟨fun c => (by cases c), fun _ => ?_⟩
        refine ⟨fun c => (by cases c), fun _ => ?_⟩
        refine ⟨fun c => (by cases c), fun _ => ?_⟩
        refine ⟨fun c => (by cases c), fun _ => ?_⟩
        refine ⟨fun c => (by cases c), fun _ => ?_⟩
        refine ⟨fun c => (by cases c), fun _ => ?_⟩
        exact ⟨b, av, rfl, hav, hk1, t1.bag, odd⟩
      | bl c =>
        refine ⟨fun c => (by cases c), fun _ => ?_⟩
        refine ⟨fun c => (by cases c), fun _ => ?_⟩
        refine ⟨fun c => (by cases c), fun _ => ?_⟩
        refine ⟨fun c => (by cases c), fun _ => ?_⟩
        refine ⟨fun _ => ?_, fun c => (by cases c)⟩
        refine ⟨fun c2 => ?_, fun _ => ⟨b, av, rfl, hav, hk1, t1.bag, odd⟩⟩
        have c2 : 1 < kd := of_decide_eq_true c2
        intro p hp
        generalize hA : ([T.int (b2i c + 1), .int (b2i c - 1), .int (-b2i c), .int (b2i c + 1000), .str (if c = true then "True" else "False"), .int (b2i c + 50), .tup [.bl c]] : List T) = A at *
        have lA : A.length = 7 := by rw [← hA]; rfl
        obtain ⟨j, t, h1, h2, h3, _⟩ := pick_at (ts := A) (i := kd - 2) (by omega) (by omega)
        refine ⟨A, j, t, gput_same, h1, h2, ?_⟩
        have bc : (b2i c).natAbs ≤ 1 := by cases c <;> decide
        have pw : 1 ≤ 2 ^ (120 + k) := Nat.one_le_two_pow
        refine Ret.of (hQ _ _ (t1.new hp) ?_)
        rw [← hA] at h3
        simp only [List.mem_cons, List.not_mem_nil, or_false] at h3
        rcases h3 with rfl | rfl | rfl | rfl | rfl | rfl | rfl
        · exact dat_num (by omega)
        · exact dat_num (by omega)
        · exact dat_num (by omega)
        · exact dat_num (by omega)
        · exact dat_str (l := 0) (by cases c <;> decide) (by have := Nat.pow_le_pow_right (show 0 < 3 by decide) (Nat.zero_le k); omega)
        · exact dat_num (by omega)
        · exact ⟨by show 1 ≤ 400 + (k + 1); omega, fun t ht => by rw [List.mem_singleton.mp ht]; exact Dat.bl⟩
      | int i =>
        have hi := Dat.int.mp hx
        refine ⟨fun c => (by cases c), fun _ => ?_⟩
        refine ⟨fun c => (by cases c), fun _ => ?_⟩
        refine ⟨fun c => (by cases c), fun _ => ?_⟩
        refine ⟨fun c => (by cases c), fun _ => ?_⟩
        refine ⟨fun _ => ?_, fun c => (by cases c)⟩
        refine ⟨fun c2 => ?_, fun _ => ⟨b, av, rfl, hav, hk1, t1.bag, odd⟩⟩
        have c2 : 1 < kd := of_decide_eq_true c2
        obtain ⟨s1, s2⟩ := str_int_len hi hk
        refine ⟨s1, ?_⟩
        intro p hp
        generalize hA : ([T.int (i + 1), .int (i - 1), .int (-i), .int (i + 1000), .str (toString i), .int (i + 50), .tup [.int i]] : List T) = A at *
        have lA : A.length = 7 := by rw [← hA]; rfl
        obtain ⟨j, t, h1, h2, h3, _⟩ := pick_at (ts := A) (i := kd - 2) (by omega) (by omega)
        refine ⟨A, j, t, gput_same, h1, h2, ?_⟩
        refine Ret.of (hQ _ _ (t1.new hp) ?_)
        rw [← hA] at h3
        simp only [List.mem_cons, List.not_mem_nil, or_false] at h3
        rcases h3 with rfl | rfl | rfl | rfl | rfl | rfl | rfl
        · exact dat_num (by omega)
        · exact dat_num (by omega)
        · exact dat_num (by omega)
        · exact dat_num (by omega)
        · exact dat_str (l := 0) (by show (Str.ofString (toString i)).length ≤ _; omega) (by have := Nat.pow_le_pow_right (show 0 < 3 by decide) (Nat.zero_le k); omega)
        · exact dat_num (by omega)
        · exact ⟨by show 1 ≤ 400 + (k + 1); omega, fun t ht => by rw [List.mem_singleton.mp ht]; exact dat_num (by omega)⟩
      | str z =>
        have hz := Dat.str.mp hx
        have h3k : 150 * 3 ^ k ≤ 150 * 3 ^ 5 := pow3_up hk
        have h3e : 150 * 3 ^ 5 = 36450 := by decide
        have la : (("a" : Str)).length = 1 := by decide
        have lb : ((" " : Str)).length = 1 := by decide
        have lz : (("z" : Str)).length = 1 := by decide
        refine ⟨fun c => (by cases c), fun _ => ?_⟩
        refine ⟨fun c => (by cases c), fun _ => ?_⟩
        refine ⟨fun _ => ?_, fun c => (by cases c)⟩
        refine ⟨fun c2 => ?_, fun _ => ?_⟩
        · have c2 : 1 < kd := of_decide_eq_true c2
          refine ⟨by omega, by omega, by omega, by omega, by omega, by omega, ?_⟩
          intro p hp
          generalize hA : ([T.str (z ++ "a"), .str ⟨(cutT z.cps.toList none (some (-1))).toArray⟩, .str (z ++ " "), .str (Txt.upper z), .str (z ++ z), .str ("z" ++ z), .str ""] : List T) = A at *
          have lA : A.length = 7 := by rw [← hA]; rfl
          obtain ⟨j, t, h1, h2, h3, _⟩ := pick_at (ts := A) (i := kd - 2) (by omega) (by omega)
          refine ⟨A, j, t, gput_same, h1, h2, ?_⟩
          refine Ret.of (hQ _ _ (t1.new hp) ?_)
          rw [← hA] at h3
          simp only [List.mem_cons, List.not_mem_nil, or_false] at h3
          have lu := PyProof.Rows.len_upper z
          rcases h3 with rfl | rfl | rfl | rfl | rfl | rfl | rfl
          · exact dat_str (l := z.length) (by rw [Str.length_append]; omega) hz
          · refine dat_str (l := z.length) ?_ hz
            have := cut_len (ts := z.cps.toList) (lo := none) (hi := some (-1))
            have e : (Str.mk (cutT z.cps.toList none (some (-1))).toArray).length = (cutT z.cps.toList none (some (-1))).length := by show Array.size _ = _; simp
            have e2 : z.cps.toList.length = z.length := by simp [Str.length]
            omega
          · exact dat_str (l := z.length) (by rw [Str.length_append]; omega) hz
          · exact dat_str (l := z.length) (by omega) hz
          · exact dat_str (l := z.length) (by rw [Str.length_append]; omega) hz
          · exact dat_str (l := z.length) (by rw [Str.length_append]; omega) hz
          · exact dat_str (l := z.length) (by show 0 ≤ _; omega) hz
        · refine ⟨fun c => (by cases c), fun _ => ?_⟩
          refine ⟨fun c => (by cases c), fun _ => ?_⟩
          exact ⟨b, av, rfl, hav, hk1, t1.bag, odd⟩
      | tup us =>
        obtain ⟨m', rfl⟩ : ∃ m', m = m' + 1 := by
          cases m with
          | zero => exact hx1.elim
          | succ m' => exact ⟨m', rfl⟩
        obtain ⟨hul, hus⟩ := hx1
        refine ⟨fun _ => ?_, fun c => (by cases c)⟩
        refine ⟨fun c1 => ⟨fun c2 => ?_, fun _ => ?_⟩, fun _ => ?_⟩
        · have c1 : 0 < (us.length : Int) := of_decide_eq_true c1
          have c2 : 0 < kd := of_decide_eq_true c2
          refine ⟨fun ρ G' => ∃ p, ρ = [some (.ref b), some (.tup us), some (.int kd), some (.ref p), none, none] ∧ G1 p = none ∧ G' = gput G1 p (.lst us), ?_, ?_⟩
          · intro p hp
            exact ⟨_, _, ELe.refl _, Sub.refl _, p, rfl, hp, rfl⟩
          rintro ρ G2 ⟨p, rfl, hp, rfl⟩
          have t2 := t1.new (o := .lst us) hp
          have t2' : BT b G1 (gput G1 p (.lst us)) := (BT.start t1.bag).new hp
          have hpb : p ≠ b := (bag_new t1.bag hp).symm
          have hpav : p ∉ av := hk1.new hp
          refine ⟨_, gput_same, ⟨t2.bag, by omega, by omega⟩, fun at_ G3 la ua g3 => ?_⟩
          have t3 := t2'.to g3
          have e3 : G3 p = some (.lst us) := (g3.ne hpb).trans gput_same
          obtain ⟨j, t, j1, j2, j3, j4⟩ := pick_at (ts := us) la ua
          have hj : j < us.length := (List.getElem?_eq_some_iff.mp j2).1
          have up : ∀ G' : Gp, BT b G1 G' → ∀ t ∈ us, Dat av G' (k + 1) (m' + 3) t := fun G' tt t ht => (hus t ht).mono (by omega) (fun _ z => z) (Off.bt hav tt) (by omega)
          refine ⟨fun ρ G' => ∃ p' rows, ρ = [some (.ref b), some (.tup us), some (.int kd), some (.ref p'), some (.int at_), none] ∧ G' p' = some (.lst rows) ∧ rows.length ≤ 401 + k ∧ (∀ t ∈ rows, Dat av G' (k + 1) (m' + 3) t) ∧ p' ∉ av ∧ BT b G1 G', ?_, ?_⟩
          · refine ⟨fun c => ?_, fun c => ?_⟩
            · -- gone
              refine ⟨us, e3, fun p4 hp4 => ?_⟩
              have t4 := t3.new (o := .lst (cutT us none (some at_))) hp4
              refine ⟨us, (Sub.refl _).new hp4 _ _ e3, fun p5 hp5 => ?_⟩
              have t5 := t4.new (o := .lst (cutT us (some (at_ + 1)) none)) hp5
              have lz : (cutT us none (some at_)).length + (cutT us (some (at_ + 1)) none).length ≤ 401 + k := by
                rw [cut_take la, cut_drop (by omega), List.length_take, List.length_drop]; omega
              refine ⟨_, _, (Sub.refl _).new hp5 _ _ gput_same, gput_same, by omega, fun p6 hp6 => ?_⟩
              have t6 := t5.new (o := .lst (cutT us none (some at_) ++ cutT us (some (at_ + 1)) none)) hp6
              refine ⟨_, _, ELe.refl _, Sub.refl _, p6, _, rfl, gput_same, by rw [List.length_append]; omega, fun u hu => ?_, (hk1.bt t5).new hp6, t6⟩
              rcases List.mem_append.mp hu with z | z
              · exact up _ t6 _ (cut_mem z)
              · exact up _ t6 _ (cut_mem z)
            refine ⟨fun c => ?_, fun c => ?_⟩
            · -- twice
              refine ⟨us, e3, fun p4 hp4 => ?_⟩
              have t4 := t3.new (o := .lst (cutT us none (some (at_ + 1)))) hp4
              refine ⟨us, (Sub.refl _).new hp4 _ _ e3, fun p5 hp5 => ?_⟩
              have t5 := t4.new (o := .lst (cutT us (some at_) none)) hp5
              have lz : (cutT us none (some (at_ + 1))).length + (cutT us (some at_) none).length ≤ 401 + k := by
                rw [cut_take (by omega), cut_drop la, List.length_take, List.length_drop]; omega
              refine ⟨_, _, (Sub.refl _).new hp5 _ _ gput_same, gput_same, by omega, fun p6 hp6 => ?_⟩
              have t6 := t5.new (o := .lst (cutT us none (some (at_ + 1)) ++ cutT us (some at_) none)) hp6
              refine ⟨_, _, ELe.refl _, Sub.refl _, p6, _, rfl, gput_same, by rw [List.length_append]; omega, fun u hu => ?_, (hk1.bt t5).new hp6, t6⟩
              rcases List.mem_append.mp hu with z | z
              · exact up _ t6 _ (cut_mem z)
              · exact up _ t6 _ (cut_mem z)
            refine ⟨fun c => ?_, fun c => ?_⟩
            · -- exchanged
              refine ⟨us, e3, ⟨t3.bag, by omega, by omega⟩, fun ot G4 lo uo g4 => ?_⟩
              have t4 := t3.to g4
              have e4 : G4 p = some (.lst us) := (g4.ne hpb).trans e3
              obtain ⟨j', t', o1, o2, o3, o4⟩ := pick_at (ts := us) lo uo
              refine ⟨us, j', t', e4, o1, o2, us, j, t, e4, j1, j2, ?_⟩
              refine ⟨us, j, e4, j1, ?_⟩
              refine ⟨_, j', gput_same, by rw [List.length_set]; exact o1, ?_⟩
              rw [gput_put]
              have t5 : BT b G1 (gput G4 p (.lst ((us.set j t').set j' t))) := by
                obtain ⟨c1, c2, ok, s⟩ := t4
                refine ⟨c1, c2, ok, s.mut ?_⟩
                rw [gput_ne hpb]; exact hp
              refine ⟨_, _, .keep _ (.keep _ (.keep _ (.keep _ (.keep _ (.drop _ .nil))))), Sub.refl _, p, _, rfl, gput_same, by rw [List.length_set, List.length_set]; omega, fun u hu => ?_, hpav, t5⟩
              rcases List.mem_or_eq_of_mem_set hu with z | z
              · rcases List.mem_or_eq_of_mem_set z with z | z
                · exact up _ t5 _ z
                · rw [z]; exact up _ t5 _ o3
              · rw [z]; exact up _ t5 _ j3
            refine ⟨fun c => ?_, fun c => ?_⟩
            · -- of another kind
              refine ⟨fun _ => ?_, fun c => (by cases c)⟩
              refine Ret.of (hQ _ _ (t1.trans t3) ⟨hpav, us, e3, by omega, up _ t3⟩)
            · -- a part spoilt
              refine ⟨us, j, t, e3, j1, j2, ?_⟩
              have d3 : Dat (p :: av) G3 k m' t := ((hus t j3).fresh hp).off (Off.bt (List.mem_cons_of_mem _ hav) ((BT.start ((BT.start t1.bag).new hp).bag).to g3))
              refine ⟨b, p :: av, t, m', k, rfl, by omega, hk, List.mem_cons_of_mem _ hav, (hk1.bt t3).cons e3, t3.bag, d3, fun y G4 t4 d4 => ?_⟩
              have e4 : G4 p = some (.lst us) := t4.get hpb e3
              refine ⟨us, j, e4, j1, ?_⟩
              have t5 : BT b G1 (gput G4 p (.lst (us.set j y))) := by
                obtain ⟨c1, c2, ok, s⟩ := t3.trans t4
                refine ⟨c1, c2, ok, s.mut ?_⟩
                rw [gput_ne hpb]; exact hp
              refine ⟨_, _, ELe.refl _, Sub.refl _, p, _, rfl, gput_same, by rw [List.length_set]; omega, fun u hu => ?_, hpav, t5⟩
              rcases List.mem_or_eq_of_mem_set hu with z | z
              · exact up _ t5 _ z
              · rw [z]; exact d4.less
          · rintro ρ G4 ⟨p', rows, rfl, e4, z4, d4, n4, t4⟩
            refine ⟨fun _ => ?_, fun c => (by cases c)⟩
            exact ⟨rows, e4, Ret.of (hQ _ _ (t1.trans t4) ⟨by omega, d4⟩)⟩
        · refine ⟨fun c => (by cases c), fun _ => ?_⟩
          refine ⟨fun c => (by cases c), fun _ => ?_⟩
          refine ⟨fun c => (by cases c), fun _ => ?_⟩
          refine ⟨fun c => (by cases c), fun _ => ?_⟩
          exact ⟨b, av, rfl, hav, hk1, t1.bag, odd⟩
        · refine ⟨fun c => (by cases c), fun _ => ?_⟩
          refine ⟨fun c => (by cases c), fun _ => ?_⟩
          refine ⟨fun c => (by cases c), fun _ => ?_⟩
          refine ⟨fun c => (by cases c), fun _ => ?_⟩
          refine ⟨fun c => (by cases c), fun _ => ?_⟩
          exact ⟨b, av, rfl, hav, hk1, t1.bag, odd⟩
      | ref a =>
        obtain ⟨m', rfl⟩ : ∃ m', m = m' + 1 := by
          cases m with
          | zero => exact hx1.elim
          | succ m' => exact ⟨m', rfl⟩
        obtain ⟨haav, us, ea, hul, hus⟩ := hx1
        have hab : a ≠ b := fun z => haav (by rw [z]; exact hav)
        refine ⟨us, ea, fun _ => ?_, fun c => (by cases c)⟩
        refine ⟨us, ea, fun c1 => ⟨fun c2 => ?_, fun _ => ?_⟩, fun _ => ?_⟩
        · have c1 : 0 < (us.length : Int) := of_decide_eq_true c1
          have c2 : 0 < kd := of_decide_eq_true c2
          refine ⟨fun ρ G' => ∃ p, ρ = [some (.ref b), some (.ref a), some (.int kd), some (.ref p), none, none] ∧ G1 p = none ∧ G' = gput G1 p (.lst us), ?_, ?_⟩
          · refine ⟨us, ea, fun p hp => ?_⟩
            exact ⟨_, _, ELe.refl _, Sub.refl _, p, rfl, hp, rfl⟩
          rintro ρ G2 ⟨p, rfl, hp, rfl⟩
          have t2 := t1.new (o := .lst us) hp
          have t2' : BT b G1 (gput G1 p (.lst us)) := (BT.start t1.bag).new hp
          have hpb : p ≠ b := (bag_new t1.bag hp).symm
          have hpav : p ∉ av := hk1.new hp
          refine ⟨_, gput_same, ⟨t2.bag, by omega, by omega⟩, fun at_ G3 la ua g3 => ?_⟩
          have t3 := t2'.to g3
          have e3 : G3 p = some (.lst us) := (g3.ne hpb).trans gput_same
          obtain ⟨j, t, j1, j2, j3, j4⟩ := pick_at (ts := us) la ua
          have hj : j < us.length := (List.getElem?_eq_some_iff.mp j2).1
          have up : ∀ G' : Gp, BT b G1 G' → ∀ t ∈ us, Dat av G' (k + 1) (m' + 3) t := fun G' tt t ht => (hus t ht).mono (by omega) (fun _ z => z) (Off.bt hav tt) (by omega)
          refine ⟨fun ρ G' => ∃ p' rows, ρ = [some (.ref b), some (.ref a), some (.int kd), some (.ref p'), some (.int at_), none] ∧ G' p' = some (.lst rows) ∧ rows.length ≤ 401 + k ∧ (∀ t ∈ rows, Dat av G' (k + 1) (m' + 3) t) ∧ p' ∉ av ∧ BT b G1 G', ?_, ?_⟩
          · refine ⟨fun c => ?_, fun c => ?_⟩
            · -- gone
              refine ⟨us, e3, fun p4 hp4 => ?_⟩
              have t4 := t3.new (o := .lst (cutT us none (some at_))) hp4
              refine ⟨us, (Sub.refl _).new hp4 _ _ e3, fun p5 hp5 => ?_⟩
              have t5 := t4.new (o := .lst (cutT us (some (at_ + 1)) none)) hp5
              have lz : (cutT us none (some at_)).length + (cutT us (some (at_ + 1)) none).length ≤ 401 + k := by
                rw [cut_take la, cut_drop (by omega), List.length_take, List.length_drop]; omega
              refine ⟨_, _, (Sub.refl _).new hp5 _ _ gput_same, gput_same, by omega, fun p6 hp6 => ?_⟩
              have t6 := t5.new (o := .lst (cutT us none (some at_) ++ cutT us (some (at_ + 1)) none)) hp6
              refine ⟨_, _, ELe.refl _, Sub.refl _, p6, _, rfl, gput_same, by rw [List.length_append]; omega, fun u hu => ?_, (hk1.bt t5).new hp6, t6⟩
              rcases List.mem_append.mp hu with z | z
              · exact up _ t6 _ (cut_mem z)
              · exact up _ t6 _ (cut_mem z)
            refine ⟨fun c => ?_, fun c => ?_⟩
            · -- twice
              refine ⟨us, e3, fun p4 hp4 => ?_⟩
              have t4 := t3.new (o := .lst (cutT us none (some (at_ + 1)))) hp4
              refine ⟨us, (Sub.refl _).new hp4 _ _ e3, fun p5 hp5 => ?_⟩
              have t5 := t4.new (o := .lst (cutT us (some at_) none)) hp5
              have lz : (cutT us none (some (at_ + 1))).length + (cutT us (some at_) none).length ≤ 401 + k := by
                rw [cut_take (by omega), cut_drop la, List.length_take, List.length_drop]; omega
              refine ⟨_, _, (Sub.refl _).new hp5 _ _ gput_same, gput_same, by omega, fun p6 hp6 => ?_⟩
              have t6 := t5.new (o := .lst (cutT us none (some (at_ + 1)) ++ cutT us (some at_) none)) hp6
              refine ⟨_, _, ELe.refl _, Sub.refl _, p6, _, rfl, gput_same, by rw [List.length_append]; omega, fun u hu => ?_, (hk1.bt t5).new hp6, t6⟩
              rcases List.mem_append.mp hu with z | z
              · exact up _ t6 _ (cut_mem z)
              · exact up _ t6 _ (cut_mem z)
            refine ⟨fun c => ?_, fun c => ?_⟩
            · -- exchanged
              refine ⟨us, e3, ⟨t3.bag, by omega, by omega⟩, fun ot G4 lo uo g4 => ?_⟩
              have t4 := t3.to g4
              have e4 : G4 p = some (.lst us) := (g4.ne hpb).trans e3
              obtain ⟨j', t', o1, o2, o3, o4⟩ := pick_at (ts := us) lo uo
              refine ⟨us, j', t', e4, o1, o2, us, j, t, e4, j1, j2, ?_⟩
              refine ⟨us, j, e4, j1, ?_⟩
              refine ⟨_, j', gput_same, by rw [List.length_set]; exact o1, ?_⟩
              rw [gput_put]
              have t5 : BT b G1 (gput G4 p (.lst ((us.set j t').set j' t))) := by
                obtain ⟨c1, c2, ok, s⟩ := t4
                refine ⟨c1, c2, ok, s.mut ?_⟩
                rw [gput_ne hpb]; exact hp
              refine ⟨_, _, .keep _ (.keep _ (.keep _ (.keep _ (.keep _ (.drop _ .nil))))), Sub.refl _, p, _, rfl, gput_same, by rw [List.length_set, List.length_set]; omega, fun u hu => ?_, hpav, t5⟩
              rcases List.mem_or_eq_of_mem_set hu with z | z
              · rcases List.mem_or_eq_of_mem_set z with z | z
                · exact up _ t5 _ z
                · rw [z]; exact up _ t5 _ o3
              · rw [z]; exact up _ t5 _ j3
            refine ⟨fun c => ?_, fun c => ?_⟩
            · -- of another kind
              refine ⟨us, t3.get hab ea, fun c => (by cases c), fun _ => ?_⟩
              refine ⟨us, e3, ?_⟩
              refine Ret.of (hQ _ _ (t1.trans t3) ⟨by omega, up _ t3⟩)
            · -- a part spoilt
              refine ⟨us, j, t, e3, j1, j2, ?_⟩
              have d3 : Dat (p :: av) G3 k m' t := ((hus t j3).fresh hp).off (Off.bt (List.mem_cons_of_mem _ hav) ((BT.start ((BT.start t1.bag).new hp).bag).to g3))
              refine ⟨b, p :: av, t, m', k, rfl, by omega, hk, List.mem_cons_of_mem _ hav, (hk1.bt t3).cons e3, t3.bag, d3, fun y G4 t4 d4 => ?_⟩
              have e4 : G4 p = some (.lst us) := t4.get hpb e3
              refine ⟨us, j, e4, j1, ?_⟩
              have t5 : BT b G1 (gput G4 p (.lst (us.set j y))) := by
                obtain ⟨c1, c2, ok, s⟩ := t3.trans t4
                refine ⟨c1, c2, ok, s.mut ?_⟩
                rw [gput_ne hpb]; exact hp
              refine ⟨_, _, ELe.refl _, Sub.refl _, p, _, rfl, gput_same, by rw [List.length_set]; omega, fun u hu => ?_, hpav, t5⟩
              rcases List.mem_or_eq_of_mem_set hu with z | z
              · exact up _ t5 _ z
              · rw [z]; exact d4.less
          · rintro ρ G4 ⟨p', rows, rfl, e4, z4, d4, n4, t4⟩
            refine ⟨us, t4.get hab ea, fun c => (by cases c), fun _ => ?_⟩
            exact Ret.of (hQ _ _ (t1.trans t4) ⟨n4, rows, e4, by omega, d4⟩)
        · refine ⟨us, ea, fun c => (by cases c), fun _ => ?_⟩
          refine ⟨fun c => (by cases c), fun _ => ?_⟩
          refine ⟨us, ea, fun c => (by cases c), fun _ => ?_⟩
          refine ⟨fun c => (by cases c), fun _ => ?_⟩
          exact ⟨b, av, rfl, hav, hk1, t1.bag, odd⟩
        · refine ⟨fun c => (by cases c), fun _ => ?_⟩
          refine ⟨us, ea, fun c => (by cases c), fun _ => ?_⟩
          refine ⟨fun c => (by cases c), fun _ => ?_⟩
          refine ⟨us, ea, fun c => (by cases c), fun _ => ?_⟩
          refine ⟨fun c => (by cases c), fun _ => ?_⟩
          exact ⟨b, av, rfl, hav, hk1, t1.bag, odd⟩
      | ty n => cases m <;> exact hx.elim
      | scr n => cases m <;> exact hx.elim
theorem ok_law_spoilt {P : Program} {w : World} {K : PySem.W.Frag} {mg : Str → Option Value} {base : Heap} (F : FunAt K mg "_law_spoilt" "_law_spoilt" s_law_spoilt ["bag", "thing"]) (TX : Txt K mg) (D_law_take : DefOk P w K mg base 1 "_law_take" ["bag", "many"] sp_law_take) (D_law_odd : DefOk P w K mg base 2 "_law_odd" ["bag"] sp_law_odd) : DefOk P w K mg base 27 "_law_spoilt" ["bag", "thing"] (sp_law_spoilt 24) := okr_law_spoilt F TX D_law_take D_law_odd 24
abbrev s_law_lowest : Stmt := topS 21
abbrev N_law_lowest : List Str := ["top", "bottom", "one", "other"]
theorem sc_law_lowest : FnScope N_law_lowest ["top", "bottom"] (defScope s_law_lowest) := ⟨rfl, rfl, rfl, by decide +kernel, rfl, by decide +kernel, by decide +kernel⟩
set_option maxHeartbeats 4000000 in
theorem ok_law_lowest {P : Program} {w : World} {K : PySem.W.Frag} {mg : Str → Option Value} {base : Heap} (F : FunAt K mg "_law_lowest" "_law_lowest" s_law_lowest ["top", "bottom"]) (TX : Txt K mg)  :
    DefOk P w K mg base 1 "_law_lowest" ["top", "bottom"] sp_law_lowest := by
  refine okd F sc_law_lowest (fun ts G Q E h => ?len) (fun f cdv A outer s H E hr => ss_cons (s_par (i := 2) (j := 3) rfl sc_law_lowest.nd rfl rfl  (by decide)  rfl rfl  (a_cons (e_var 0) (a_cons (e_var 1) a_nil)) rfl)
    (ss_cons (s_while PassesOwn.never (t_cmp o_gt (e_var 3) (e_int) (nomark _)) (ss_one (s_par (i := 2) (j := 3) rfl sc_law_lowest.nd rfl rfl  (by decide)  rfl rfl  (a_cons (e_var 3) (a_cons (e_op o_mod (e_var 2) (e_var 3)) a_nil)) rfl)))
    (ss_one (s_ret (e_tup (a_cons (e_op o_div (e_var 0) (e_var 2)) (a_cons (e_op o_div (e_var 1) (e_var 2)) a_nil)))))))
    (fun ts G Q E h => ?run)
  case len => unfold sp_law_lowest at h; split at h <;> first | rfl | exact h.elim
  case run =>
    unfold sp_law_lowest at h
    split at h
    · rename_i t b
      obtain ⟨⟨h0, h1, h2⟩, hQ⟩ := h
      refine ⟨fun m ρ G' => ∃ x y : Int, ρ = [some (.int t), some (.int b), some (.int x), some (.int y)] ∧ G' = G ∧ 0 ≤ x ∧ 0 ≤ y ∧ Int.gcd x y = Int.gcd t b ∧ m = y.toNat, ⟨_, t, b, rfl, rfl, h0, by omega, rfl, rfl⟩, ?_⟩
      rintro m ρ G' ⟨x, y, rfl, rfl, hx, hy, hg, rfl⟩
      refine ⟨fun c => ?_, fun c => ?_⟩
      · have hy0 : 0 < y := of_decide_eq_true c
        have hm := Int.emod_lt_of_pos x hy0
        have hm0 := Int.emod_nonneg x (show y ≠ 0 by omega)
        exact ⟨hy0, Wk.of ⟨(x % y).toNat, by omega, y, x % y, rfl, rfl, by omega, hm0, by rw [gcd_step hx hy0]; exact hg, rfl⟩⟩
      · have hy0 : ¬ 0 < y := of_decide_eq_false c
        have e : y = 0 := by omega
        subst e
        have hxe : x = (Int.gcd t b : Int) := by
          rw [← hg, Int.gcd_zero_right]
          omega
        have hp : 0 < Int.gcd t b := Int.gcd_pos_of_ne_zero_right t (by omega)
        have hle : Int.gcd t b ≤ b.natAbs := Nat.le_of_dvd (by omega) (Int.gcd_dvd_natAbs_right t b)
        have ok : DivOk x := divOk 8999 (by omega) (by rw [hxe]; omega) (by omega)
        refine ⟨ok, ok, ?_⟩
        rw [hxe]
        exact Ret.of hQ
    · exact h.elim
abbrev s_law_rules : Stmt := topS 22
abbrev N_law_rules : List Str := ["bag", "bottom", "shrink", "wear"]
theorem sc_law_rules : FnScope N_law_rules ["bag"] (defScope s_law_rules) := ⟨rfl, rfl, rfl, by decide +kernel, rfl, by decide +kernel, by decide +kernel⟩
set_option maxHeartbeats 4000000 in
theorem ok_law_rules {P : Program} {w : World} {K : PySem.W.Frag} {mg : Str → Option Value} {base : Heap} (F : FunAt K mg "_law_rules" "_law_rules" s_law_rules ["bag"]) (TX : Txt K mg) (D_law_take : DefOk P w K mg base 1 "_law_take" ["bag", "many"] sp_law_take) (D_law_lowest : DefOk P w K mg base 1 "_law_lowest" ["top", "bottom"] sp_law_lowest) :
    DefOk P w K mg base 2 "_law_rules" ["bag"] sp_law_rules := by
  refine okd F sc_law_rules (fun ts G Q E h => ?len) (fun f cdv A outer s H E hr => ss_cons (s_set (i := 1) sc_law_rules.nd rfl (by first | exact Or.inl rfl | exact Or.inr rfl) (e_op o_add (e_int) (e_callD D_law_take hr (by rfl) (a_cons (e_var 0) (a_cons (e_int) a_nil)))))
    (ss_cons (s_set (i := 2) sc_law_rules.nd rfl (by first | exact Or.inl rfl | exact Or.inr rfl) (e_callD D_law_lowest hr (by rfl) (a_cons (e_op o_sub (e_op o_sub (e_var 1) (e_int)) (e_callD D_law_take hr (by rfl) (a_cons (e_var 0) (a_cons (e_ix i_ix (e_lst (a_cons (e_int) (a_cons (e_op o_sub (e_var 1) (e_int)) a_nil))) (e_callD D_law_take hr (by rfl) (a_cons (e_var 0) (a_cons (e_int) a_nil))) (fun _ _ => rfl)) a_nil)))) (a_cons (e_var 1) a_nil))))
    (ss_cons (s_set (i := 3) sc_law_rules.nd rfl (by first | exact Or.inl rfl | exact Or.inr rfl) (e_ix i_ix (e_lst (a_cons (e_tup (a_cons (e_int) (a_cons (e_int) a_nil))) (a_cons (e_tup (a_cons (e_int) (a_cons (e_int) a_nil))) (a_cons (e_callD D_law_lowest hr (by rfl) (a_cons (e_callD D_law_take hr (by rfl) (a_cons (e_var 0) (a_cons (e_int) a_nil))) (a_cons (e_op o_add (e_int) (e_callD D_law_take hr (by rfl) (a_cons (e_var 0) (a_cons (e_int) a_nil)))) a_nil))) a_nil)))) (e_callD D_law_take hr (by rfl) (a_cons (e_var 0) (a_cons (e_int) a_nil))) (fun _ _ => rfl)))
    (ss_one (s_ret (e_tup (a_cons (e_var 2) (a_cons (e_var 3) (a_cons (e_op o_add (e_int) (e_callD D_law_take hr (by rfl) (a_cons (e_var 0) (a_cons (e_int) a_nil)))) a_nil)))))))))
    (fun ts G Q E h => ?run)
  case len => unfold sp_law_rules at h; split at h <;> first | rfl | exact h.elim
  case run =>
    unfold sp_law_rules at h
    split at h
    · rename_i b
      obtain ⟨hb, hQ⟩ := h
      have t0 := BT.start hb
      -- bottom
      refine ⟨⟨hb, by decide, by decide⟩, fun x1 G1 l1 u1 g1 => ?_⟩
      have t1 := t0.to g1
      -- shrink
      intro p hp
      have t2 := t1.new (o := .lst [.int 1, .int (2 + x1 - 1)]) hp
      refine ⟨⟨t2.bag, by decide, by decide⟩, fun x2 G3 l2 u2 g3 => ?_⟩
      have t3 := t2.to g3
      have e3 : G3 p = some (.lst [.int 1, .int (2 + x1 - 1)]) := (g3.ne (bag_new t1.bag hp).symm).trans gput_same
      have sel : ∃ m : Int, 0 < m ∧ m ≤ 2 + x1 - 1 ∧ ∃ n, ixN 2 x2 = some n ∧ ([.int 1, .int (2 + x1 - 1)] : List T)[n]? = some (.int m) := by
        obtain rfl | rfl : x2 = 0 ∨ x2 = 1 := by omega
        · exact ⟨1, by decide, by omega, 0, rfl, rfl⟩
        · exact ⟨2 + x1 - 1, by omega, by omega, 1, rfl, rfl⟩
      obtain ⟨m, m0, m1, n, hn, hm⟩ := sel
      refine ⟨_, n, _, e3, hn, hm, ⟨t3.bag, m0, by omega⟩, fun x4 G4 l4 u4 g4 => ?_⟩
      have t4 := t3.to g4
      have b0 : (0 : Int) < 2 + x1 := by omega
      have s0 : (0 : Int) < 2 + x1 - 1 - x4 := by omega
      refine ⟨⟨by omega, b0, Nat.lt_of_lt_of_le (show (2 + x1).natAbs < 2 ^ 5 by omega) (Nat.pow_le_pow_right (by decide) (by decide))⟩, ?_⟩
      obtain ⟨q1, q2, q3, q4, q5⟩ := low_le (Int.le_of_lt s0) b0
      have q6 := low_pos s0 b0
      have q7 := low_lt (Int.le_of_lt s0) b0 (by omega)
      -- wear
      refine ⟨⟨t4.bag, by decide, by decide⟩, fun x5 G5 l5 u5 g5 => ?_⟩
      have t5 := t4.to g5
      refine ⟨⟨t5.bag, by decide, by decide⟩, fun x6 G6 l6 u6 g6 => ?_⟩
      have t6 := t5.to g6
      refine ⟨⟨l5, by omega, Nat.lt_of_lt_of_le (show (1 + x6).natAbs < 2 ^ 5 by omega) (Nat.pow_le_pow_right (by decide) (by decide))⟩, ?_⟩
      obtain ⟨w1, w2, w3, w4, w5⟩ := low_le l5 (show 0 < 1 + x6 by omega)
      intro p2 hp2
      have t7 := t6.new (o := .lst [fr (0, 1), fr (1, 1), fr (low x5 (1 + x6))]) hp2
      refine ⟨⟨t7.bag, by decide, by decide⟩, fun x8 G8 l8 u8 g8 => ?_⟩
      have t8 := t7.to g8
      have e8 : G8 p2 = some (.lst [fr (0, 1), fr (1, 1), fr (low x5 (1 + x6))]) := (g8.ne (bag_new t6.bag hp2).symm).trans gput_same
      have sel : ∃ w : Int × Int, (0 ≤ w.1 ∧ w.1 ≤ 1000 ∧ 0 < w.2 ∧ w.2 ≤ 20 ∧ Int.gcd w.1 w.2 = 1) ∧ ∃ n, ixN 3 x8 = some n ∧ ([fr (0, 1), fr (1, 1), fr (low x5 (1 + x6))] : List T)[n]? = some (fr w) := by
        obtain rfl | rfl | rfl : x8 = 0 ∨ x8 = 1 ∨ x8 = 2 := by omega
        · exact ⟨(0, 1), ⟨by decide, by decide, by decide, by decide, rfl⟩, 0, rfl, rfl⟩
        · exact ⟨(1, 1), ⟨by decide, by decide, by decide, by decide, rfl⟩, 1, rfl, rfl⟩
        · exact ⟨_, ⟨w1, by omega, w3, by omega, w5⟩, 2, rfl, rfl⟩
      obtain ⟨w, ⟨v1, v2, v3, v4, v5⟩, n2, hn2, hw⟩ := sel
      refine ⟨_, n2, _, e8, hn2, hw, ⟨t8.bag, by decide, by decide⟩, fun x9 G9 l9 u9 g9 => ?_⟩
      have t9 := t8.to g9
      refine t9.ret fun G' g' => ?_
      exact hQ (low (2 + x1 - 1 - x4) (2 + x1), w, 1 + x9) G' ⟨q6, q7, by show (low (2 + x1 - 1 - x4) (2 + x1)).2 ≤ 20; omega, q5, v1, v2, v3, v4, v5, by show 1 ≤ 1 + x9; omega, by show 1 + x9 ≤ 6; omega⟩ g'
    · exact h.elim
abbrev s_law_size : Stmt := topS 23
abbrev N_law_size : List Str := ["bag", "top"]
theorem sc_law_size : FnScope N_law_size ["bag"] (defScope s_law_size) := ⟨rfl, rfl, rfl, by decide +kernel, rfl, by decide +kernel, by decide +kernel⟩
set_option maxHeartbeats 4000000 in
theorem ok_law_size {P : Program} {w : World} {K : PySem.W.Frag} {mg : Str → Option Value} {base : Heap} (F : FunAt K mg "_law_size" "_law_size" s_law_size ["bag"]) (TX : Txt K mg) (D_law_take : DefOk P w K mg base 1 "_law_take" ["bag", "many"] sp_law_take) (D_law_lowest : DefOk P w K mg base 1 "_law_lowest" ["top", "bottom"] sp_law_lowest) :
    DefOk P w K mg base 2 "_law_size" ["bag"] sp_law_size := by
  refine okd F sc_law_size (fun ts G Q E h => ?len) (fun f cdv A outer s H E hr => ss_cons (s_set (i := 1) sc_law_size.nd rfl (by first | exact Or.inl rfl | exact Or.inr rfl) (e_op o_add (e_int) (e_callD D_law_take hr (by rfl) (a_cons (e_var 0) (a_cons (e_ix i_ix (e_lst (a_cons (e_int) (a_cons (e_int) (a_cons (e_int) a_nil)))) (e_callD D_law_take hr (by rfl) (a_cons (e_var 0) (a_cons (e_int) a_nil))) (fun _ _ => rfl)) a_nil)))))
    (ss_one (s_ret (e_callD D_law_lowest hr (by rfl) (a_cons (e_var 1) (a_cons (e_op o_add (e_int) (e_callD D_law_take hr (by rfl) (a_cons (e_var 0) (a_cons (e_ix i_ix (e_lst (a_cons (e_int) (a_cons (e_int) (a_cons (e_int) a_nil)))) (e_callD D_law_take hr (by rfl) (a_cons (e_var 0) (a_cons (e_int) a_nil))) (fun _ _ => rfl)) a_nil)))) a_nil))))))
    (fun ts G Q E h => ?run)
  case len => unfold sp_law_size at h; split at h <;> first | rfl | exact h.elim
  case run =>
    unfold sp_law_size at h
    split at h
    · rename_i b
      obtain ⟨hb, hQ⟩ := h
      have t0 := BT.start hb
      intro p hp
      have t1 := t0.new (o := .lst [.int 30, .int 1000, .int 1000000]) hp
      refine ⟨⟨t1.bag, by decide, by decide⟩, fun x1 G1 l1 u1 g1 => ?_⟩
      have t2 := t1.to g1
      have e2 : G1 p = some (.lst [.int 30, .int 1000, .int 1000000]) := (g1.ne (bag_new t0.bag hp).symm).trans gput_same
      obtain ⟨m, hm, n, hn, hm2⟩ := pick3 (a := 30) (b := 1000) (c := 1000000) l1 u1
      refine ⟨_, n, _, e2, hn, hm2, ⟨t2.bag, by omega, by omega⟩, fun x3 G3 l3 u3 g3 => ?_⟩
      have t3 := t2.to g3
      intro p2 hp2
      have t4 := t3.new (o := .lst [.int 1, .int 12, .int 1000]) hp2
      refine ⟨⟨t4.bag, by decide, by decide⟩, fun x5 G5 l5 u5 g5 => ?_⟩
      have t5 := t4.to g5
      have e5 : G5 p2 = some (.lst [.int 1, .int 12, .int 1000]) := (g5.ne (bag_new t3.bag hp2).symm).trans gput_same
      obtain ⟨m', hm', n', hn', hm2'⟩ := pick3 (a := 1) (b := 12) (c := 1000) l5 u5
      refine ⟨_, n', _, e5, hn', hm2', ⟨t5.bag, by omega, by omega⟩, fun x6 G6 l6 u6 g6 => ?_⟩
      have t6 := t5.to g6
      refine ⟨⟨by omega, by omega, Nat.lt_of_lt_of_le (show (1 + x6).natAbs < 2 ^ 10 by omega) (Nat.pow_le_pow_right (by decide) (by decide))⟩, ?_⟩
      obtain ⟨q1, q2, q3, q4, q5⟩ := low_le (show 0 ≤ 1 + x3 by omega) (show 0 < 1 + x6 by omega)
      refine t6.ret fun G' g' => ?_
      exact hQ _ G' ⟨low_pos (by omega) (by omega), by omega, q3, by omega, q5⟩ g'
    · exact h.elim
abbrev s_law_line : Stmt := topS 24
abbrev N_law_line : List Str := ["bag", "rules", "most", "turn"]
theorem sc_law_line : FnScope N_law_line ["bag", "rules", "most"] (defScope s_law_line) := ⟨rfl, rfl, rfl, by decide +kernel, rfl, by decide +kernel, by decide +kernel⟩
set_option maxHeartbeats 4000000 in
theorem ok_law_line {P : Program} {w : World} {K : PySem.W.Frag} {mg : Str → Option Value} {base : Heap} (F : FunAt K mg "_law_line" "_law_line" s_law_line ["bag", "rules", "most"]) (TX : Txt K mg) (D_law_take : DefOk P w K mg base 1 "_law_take" ["bag", "many"] sp_law_take) :
    DefOk P w K mg base 2 "_law_line" ["bag", "rules", "most"] sp_law_line := by
  refine okd F sc_law_line (fun ts G Q E h => ?len) (fun f cdv A outer s H E hr => ss_one (s_ret (e_callTy b_tuple (by rfl) TX.n_tuple (by decide +kernel) (a_cons (e_lc (own := [("turn", 3)]) rfl sc_law_line.nd (i_rng1 (by rfl) TX.n_range (a_cons (e_callD D_law_take hr (by rfl) (a_cons (e_var 0) (a_cons (e_op o_add (e_var 2) (e_int)) a_nil))) a_nil)) (blkOk_by (N := N_law_line) (sc := defScope s_law_line) (own := [("turn", 3)]) (by decide +kernel)) (fun _ _ _ _ _ => g_name (i := 3) sc_law_line.nd rfl (by first | exact Or.inl rfl | exact Or.inr rfl)) (fun _ _ _ _ _ => ts_nil) (fun _ _ _ _ _ => e_callD D_law_take hr (by rfl) (a_cons (e_var 0) (a_cons (e_ix i_ixC (e_var 1) (e_int) (fun _ _ => rfl)) a_nil)))) a_nil))))
    (fun ts G Q E h => ?run)
  case len => obtain ⟨b, r, most, rfl, _⟩ := h; rfl
  case run =>
    obtain ⟨b, r, most, rfl, ⟨hb, r1, r2, m0, m1⟩, hQ⟩ := h
    have t0 := BT.start hb
    refine ⟨⟨hb, by omega, by omega⟩, fun x1 G1 l1 u1 g1 => ?_⟩
    have t1 := t0.to g1
    refine ⟨by omega, fun D hD => ⟨by rw [rngT_len]; omega, ?_⟩⟩
    refine ⟨fun i acc G' => ∃ l : List Int, acc = l.map T.int ∧ l.length = i ∧ (∀ n ∈ l, 0 ≤ n ∧ n < r.2.2) ∧ BT b G G' ∧ G' D = some (.lst acc),
      ⟨[], rfl, rfl, fun _ z => (by cases z), t1.new hD, gput_same⟩, ?_, ?_, ?_⟩
    · rintro i acc G' hi ⟨l, rfl, rfl, hl, t, e⟩
      exact ⟨trivial, e, by rw [List.length_map]; exact Nat.le_refl _⟩
    · rintro i t acc G' ht ⟨l, rfl, rfl, hl, tt, e⟩
      refine ⟨fun _ => ?_, fun z => by cases z⟩
      refine ⟨⟨tt.bag, by omega, by omega⟩, fun x G2 l2 u2 g2 => ?_⟩
      have hne : D ≠ b := (bag_new t1.bag hD).symm
      have e2 : G2 D = some (.lst (l.map T.int)) := by rw [g2.ne hne]; exact e
      refine ⟨e2, _, Sub.refl _, l ++ [x], by simp, by simp, ?_, ?_, gput_same⟩
      · intro n hn
        rcases List.mem_append.mp hn with z | z
        · exact hl n z
        · rw [List.mem_singleton.mp z]; exact ⟨l2, u2⟩
      · have t2 := tt.to g2
        obtain ⟨c1, c2, ok, s⟩ := t2
        refine ⟨c1, c2, ok, s.mut ?_⟩
        rw [gput_ne hne]
        have := t0.to g1
        obtain ⟨d1, d2, _, s1⟩ := t1
        have z := s1.free hD
        rw [gput_ne hne] at z
        exact z
    · rintro acc G' ⟨l, rfl, hl1, hl, t, e⟩
      rw [rngT_len] at hl1
      refine ⟨_, e, ?_⟩
      exact t.ret fun G'' g'' => hQ l G'' hl (by omega) g''
abbrev s_law_is_part : Stmt := topS 25
abbrev N_law_is_part : List Str := ["thing", "most", "least"]
theorem sc_law_is_part : FnScope N_law_is_part ["thing", "most", "least"] (defScope s_law_is_part) := ⟨rfl, rfl, rfl, by decide +kernel, rfl, by decide +kernel, by decide +kernel⟩
set_option maxHeartbeats 4000000 in
theorem ok_law_is_part {P : Program} {w : World} {K : PySem.W.Frag} {mg : Str → Option Value} {base : Heap} (F : FunAt K mg "_law_is_part" "_law_is_part" s_law_is_part ["thing", "most", "least"]) (TX : Txt K mg) (D_law_within : DefOk P w K mg base 1 "_law_within" ["thing", "least", "most"] sp_law_within) (D_law_lowest : DefOk P w K mg base 1 "_law_lowest" ["top", "bottom"] sp_law_lowest) :
    DefOk P w K mg base 2 "_law_is_part" ["thing", "most", "least"] sp_law_is_part := by
  refine okd F sc_law_is_part (fun ts G Q E h => ?len) (fun f cdv A outer s H E hr => ss_cons (s_if (PW.pt (w_or (t_not (t_tr (e_callB b_isi (by rfl) TX.n_isinstance (by decide +kernel) (a_cons (e_var 0) (a_cons (e_ty .tuple (by rfl) TX.n_tuple (by decide +kernel)) a_nil))))) (pw_or1 (t_cmp (o_ne hr.units) (e_callB b_len (by rfl) TX.n_len (by decide +kernel) (a_cons (e_var 0) a_nil)) (e_int) (nomark _))))) (ss_one (s_ret (e_bl))) (ss_nil))
    (ss_cons (s_if (PW.pt (w_or (t_not (t_tr (e_callD D_law_within hr (by rfl) (a_cons (e_ix i_ixC (e_var 0) (e_int) (fun _ _ => rfl)) (a_cons (e_int) (a_cons (e_var 1) a_nil)))))) (pw_or1 (t_not (t_tr (e_callD D_law_within hr (by rfl) (a_cons (e_ix i_ixC (e_var 0) (e_int) (fun _ _ => rfl)) (a_cons (e_int) (a_cons (e_var 2) a_nil))))))))) (ss_one (s_ret (e_bl))) (ss_nil))
    (ss_one (s_ret (e_cmp (o_eq hr.units) (e_callD D_law_lowest hr (by rfl) (a_cons (e_ix i_ixC (e_var 0) (e_int) (fun _ _ => rfl)) (a_cons (e_ix i_ixC (e_var 0) (e_int) (fun _ _ => rfl)) a_nil))) (e_var 0) (nomark _))))))
    (fun ts G Q E h => ?run)
  case len => obtain ⟨x, a, b, rfl, _⟩ := h; rfl
  case run =>
    obtain ⟨x, a, b, rfl, ha, ma, mb, hQ⟩ := h
    cases x with
    | ref p =>
      obtain ⟨xs, hx⟩ := ha
      exact ⟨xs, hx, fun _ => ⟨fun _ => Ret.of hQ, fun c => (by cases c)⟩, fun c => (by cases c)⟩
    | ty n => exact ha.elim
    | scr n => exact ha.elim
    | tup us =>
      refine ⟨fun c => (by cases c), fun _ => ?_⟩
      refine ⟨fun c => ?_, fun c => ?_⟩
      · have hl : ¬ (us.length : Int) = 2 := by simpa using c
        rw [isPart_len hl] at hQ
        exact Ret.of hQ
      · have hl : (us.length : Int) = 2 := by simpa using c
        obtain ⟨x, y, rfl⟩ := two_of hl
        refine ⟨x, 0, a, rfl, ha.1, fun c1 => ?_, fun c1 => ?_⟩
        · have e : isPart (.tup [x, y]) a b = false := by
            have : isWithin x 0 a = false := by simpa using c1
            simp only [isPart, this, Bool.false_and]
          rw [e] at hQ
          exact ⟨fun _ => Ret.of hQ, fun z => (by cases z)⟩
        · have w1 : isWithin x 0 a = true := by simpa using c1
          refine ⟨y, 1, b, rfl, ha.2.1, ?_⟩
          refine ⟨fun c2 => ?_, fun c2 => ?_⟩
          · have e : isPart (.tup [x, y]) a b = false := by
              have : isWithin y 1 b = false := by simpa using c2
              simp only [isPart, this, Bool.false_and, Bool.and_false]
            rw [e] at hQ
            exact Ret.of hQ
          · have w2 : isWithin y 1 b = true := by simpa using c2
            obtain ⟨t, rfl, t0, t1⟩ := within_int w1
            obtain ⟨d, rfl, d0, d1⟩ := within_int w2
            have hb : d.natAbs < 2 ^ 8999 := Nat.lt_of_lt_of_le (show d.natAbs < 2 ^ 20 by omega) (Nat.pow_le_pow_right (by decide) (by decide))
            refine ⟨⟨t0, by omega, hb⟩, ?_⟩
            refine ⟨rfl, rfl, ?_⟩
            have e : isPart (.tup [.int t, .int d]) a b = (false != teq (fr (low t d)) (.tup [.int t, .int d])) := by
              have z := teq_fr (low t d) (t, d)
              rw [Bool.false_bne, show (T.tup [.int t, .int d]) = fr (t, d) from rfl, z]
              simp only [isPart, fr, w1, w2, Bool.true_and, Bool.and_self]
            rw [e] at hQ
            exact Ret.of hQ
    | _ => exact ⟨fun _ => ⟨fun _ => Ret.of hQ, fun c => (by cases c)⟩, fun c => (by cases c)⟩
abbrev s_law_are_rules : Stmt := topS 26
abbrev N_law_are_rules : List Str := ["thing"]
theorem sc_law_are_rules : FnScope N_law_are_rules ["thing"] (defScope s_law_are_rules) := ⟨rfl, rfl, rfl, by decide +kernel, rfl, by decide +kernel, by decide +kernel⟩
set_option maxHeartbeats 4000000 in
theorem ok_law_are_rules {P : Program} {w : World} {K : PySem.W.Frag} {mg : Str → Option Value} {base : Heap} (F : FunAt K mg "_law_are_rules" "_law_are_rules" s_law_are_rules ["thing"]) (TX : Txt K mg) (D_law_is_part : DefOk P w K mg base 2 "_law_is_part" ["thing", "most", "least"] sp_law_is_part) (D_law_within : DefOk P w K mg base 1 "_law_within" ["thing", "least", "most"] sp_law_within) :
    DefOk P w K mg base 3 "_law_are_rules" ["thing"] sp_law_are_rules := by
  refine okd F sc_law_are_rules (fun ts G Q E h => ?len) (fun f cdv A outer s H E hr => ss_cons (s_if (PW.pt (w_or (t_not (t_tr (e_callB b_isi (by rfl) TX.n_isinstance (by decide +kernel) (a_cons (e_var 0) (a_cons (e_ty .tuple (by rfl) TX.n_tuple (by decide +kernel)) a_nil))))) (pw_or1 (t_cmp (o_ne hr.units) (e_callB b_len (by rfl) TX.n_len (by decide +kernel) (a_cons (e_var 0) a_nil)) (e_int) (nomark _))))) (ss_one (s_ret (e_bl))) (ss_nil))
    (ss_cons (s_if (PW.pt (w_or (t_not (t_tr (e_callD D_law_is_part hr (by rfl) (a_cons (e_ix i_ixC (e_var 0) (e_int) (fun _ _ => rfl)) (a_cons (e_int) (a_cons (e_int) a_nil)))))) (pw_or1 (t_not (t_chain (o_lt2 (un66 hr)) (o_lt2 (un66 hr)) (e_int) (e_ix i_ixC (e_ix i_ixC (e_var 0) (e_int) (fun _ _ => rfl)) (e_int) (fun _ _ => rfl)) (e_ix i_ixC (e_ix i_ixC (e_var 0) (e_int) (fun _ _ => rfl)) (e_int) (fun _ _ => rfl))))))) (ss_one (s_ret (e_bl))) (ss_nil))
    (ss_one (s_ret (e_and (e_callD D_law_is_part hr (by rfl) (a_cons (e_ix i_ixC (e_var 0) (e_int) (fun _ _ => rfl)) (a_cons (e_int) (a_cons (e_int) a_nil)))) (pe_one (e_callD D_law_within (hr.mono (by decide)) (by rfl) (a_cons (e_ix i_ixC (e_var 0) (e_int) (fun _ _ => rfl)) (a_cons (e_int) (a_cons (e_int) a_nil))))))))))
    (fun ts G Q E h => ?run)
  case len => obtain ⟨x, rfl, _⟩ := h; rfl
  case run =>
    obtain ⟨x, rfl, ha, hQ⟩ := h
    cases x with
    | ref p =>
      obtain ⟨xs, hx⟩ := ha
      exact ⟨xs, hx, fun _ => ⟨fun _ => Ret.of hQ, fun c => (by cases c)⟩, fun c => (by cases c)⟩
    | ty n => exact ha.elim
    | scr n => exact ha.elim
    | tup us =>
      refine ⟨fun c => (by cases c), fun _ => ?_⟩
      refine ⟨fun c => ?_, fun c => ?_⟩
      · have hl : ¬ (us.length : Int) = 3 := by simpa using c
        rw [areRules_len hl] at hQ
        exact Ret.of hQ
      · have hl : (us.length : Int) = 3 := by simpa using c
        obtain ⟨x, y, z, rfl⟩ := three_of hl
        refine ⟨x, 20, 20, rfl, ha.1, by decide, by decide, fun c1 => ?_, fun c1 => ?_⟩
        · have e : areRules (.tup [x, y, z]) = false := by
            have : isPart x 20 20 = false := by simpa using c1
            simp only [areRules, this, Bool.false_and]
          rw [e] at hQ
          exact ⟨fun _ => Ret.of hQ, fun z => (by cases z)⟩
        · have p1 : isPart x 20 20 = true := by simpa using c1
          obtain ⟨t, d, rfl, t0, t1, d0, d1, e0⟩ := part_of p1
          have key : areRules (.tup [.tup [.int t, .int d], y, z]) = (decide (0 < t) && decide (t < d) && isPart y 1000 20 && isWithin z 1 6) := by
            simp only [areRules, p1, below, Bool.true_and, Bool.and_assoc]
          rw [key] at hQ
          refine ⟨fun c2 => ⟨fun c3 => ?_, fun c3 => ?_⟩, fun c2 => ?_⟩
          · have : decide (t < d) = false := by simpa using c3
            rw [this, Bool.and_false, Bool.false_and, Bool.false_and] at hQ
            exact Ret.of hQ
          · have : decide (t < d) = true := by simpa using c3
            rw [c2, this, Bool.true_and, Bool.true_and] at hQ
            refine ⟨y, 1000, 20, rfl, ha.2.1, by decide, by decide, fun c4 => ?_, fun c4 => ?_⟩
            · rw [c4, Bool.true_and] at hQ
              exact ⟨z, 1, 6, rfl, ha.2.2.1, Ret.of hQ⟩
            · rw [c4, Bool.false_and] at hQ
              exact Ret.of hQ
          · rw [c2, Bool.false_and, Bool.false_and, Bool.false_and] at hQ
            exact ⟨fun _ => Ret.of hQ, fun z => (by cases z)⟩
    | _ => exact ⟨fun _ => ⟨fun _ => Ret.of hQ, fun c => (by cases c)⟩, fun c => (by cases c)⟩
abbrev s_law_is_size : Stmt := topS 27
abbrev N_law_is_size : List Str := ["thing"]
theorem sc_law_is_size : FnScope N_law_is_size ["thing"] (defScope s_law_is_size) := ⟨rfl, rfl, rfl, by decide +kernel, rfl, by decide +kernel, by decide +kernel⟩
set_option maxHeartbeats 4000000 in
theorem ok_law_is_size {P : Program} {w : World} {K : PySem.W.Frag} {mg : Str → Option Value} {base : Heap} (F : FunAt K mg "_law_is_size" "_law_is_size" s_law_is_size ["thing"]) (TX : Txt K mg) (D_law_is_part : DefOk P w K mg base 2 "_law_is_part" ["thing", "most", "least"] sp_law_is_part) :
    DefOk P w K mg base 3 "_law_is_size" ["thing"] sp_law_is_size := by
  refine okd F sc_law_is_size (fun ts G Q E h => ?len) (fun f cdv A outer s H E hr => ss_one (s_ret (e_and (e_callD D_law_is_part hr (by rfl) (a_cons (e_var 0) (a_cons (e_int) (a_cons (e_int) a_nil)))) (pe_one (e_cmp o_gt (e_ix i_ixC (e_var 0) (e_int) (fun _ _ => rfl)) (e_int) (nomark _))))))
    (fun ts G Q E h => ?run)
  case len => obtain ⟨x, rfl, _⟩ := h; rfl
  case run =>
    obtain ⟨x, rfl, ha, hQ⟩ := h
    refine ⟨x, 1000000, 1000, rfl, ha, by decide, by decide, fun c => ?_, fun c => ?_⟩
    · obtain ⟨t, d, rfl, _⟩ := part_of c
      have e : isSize (.tup [.int t, .int d]) = decide (0 < t) := by simp only [isSize, c, Bool.true_and]
      rw [e] at hQ
      exact Ret.of hQ
    · have e : isSize x = false := by simp only [isSize, c, Bool.false_and]
      rw [e] at hQ
      exact Ret.of hQ
abbrev s_law_is_line : Stmt := topS 28
abbrev N_law_is_line : List Str := ["rules", "thing", "one"]
theorem sc_law_is_line : FnScope N_law_is_line ["rules", "thing"] (defScope s_law_is_line) := ⟨rfl, rfl, rfl, by decide +kernel, rfl, by decide +kernel, by decide +kernel⟩
set_option maxHeartbeats 4000000 in
theorem ok_law_is_line {P : Program} {w : World} {K : PySem.W.Frag} {mg : Str → Option Value} {base : Heap} (F : FunAt K mg "_law_is_line" "_law_is_line" s_law_is_line ["rules", "thing"]) (TX : Txt K mg) (D_law_within : DefOk P w K mg base 1 "_law_within" ["thing", "least", "most"] sp_law_within) :
    DefOk P w K mg base 2 "_law_is_line" ["rules", "thing"] sp_law_is_line := by
  refine okd F sc_law_is_line (fun ts G Q E h => ?len) (fun f cdv A outer s H E hr => ss_cons (s_if (PW.pt (w_or (t_not (t_tr (e_callB b_isi (by rfl) TX.n_isinstance (by decide +kernel) (a_cons (e_var 1) (a_cons (e_ty .tuple (by rfl) TX.n_tuple (by decide +kernel)) a_nil))))) (pw_or1 (t_cmp o_gt (e_callB b_len (by rfl) TX.n_len (by decide +kernel) (a_cons (e_var 1) a_nil)) (e_int) (nomark _))))) (ss_one (s_ret (e_bl))) (ss_nil))
    (ss_one (s_ret (e_cmp (o_eqL hr.units) (e_lc (own := [("one", 2)]) rfl sc_law_is_line.nd (i_seq (e_var 1)) (blkOk_by (N := N_law_is_line) (sc := defScope s_law_is_line) (own := [("one", 2)]) (by decide +kernel)) (fun _ _ _ _ _ => g_name (i := 2) sc_law_is_line.nd rfl (by first | exact Or.inl rfl | exact Or.inr rfl)) (fun _ _ _ _ _ => ts_one (t_not (t_tr (e_callD D_law_within hr (by rfl) (a_cons (e_var 2) (a_cons (e_int) (a_cons (e_op o_sub (e_ix i_ixC (e_var 0) (e_int) (fun _ _ => rfl)) (e_int)) a_nil))))))) (fun _ _ _ _ _ => e_var 2)) (e_lst (a_nil)) (nomark _)))))
    (fun ts G Q E h => ?run)
  case len => obtain ⟨r, x, rfl, _⟩ := h; rfl
  case run =>
    obtain ⟨r, x, rfl, ha, hQ⟩ := h
    cases x with
    | ref p =>
      obtain ⟨xs, hx⟩ := ha
      exact ⟨xs, hx, fun _ => ⟨fun _ => Ret.of hQ, fun c => (by cases c)⟩, fun c => (by cases c)⟩
    | ty n => exact ha.elim
    | scr n => exact ha.elim
    | tup us =>
      refine ⟨fun c => (by cases c), fun _ => ?_⟩
      refine ⟨fun c => ?_, fun c => ?_⟩
      · have hl : ¬ us.length ≤ 40 := by have := of_decide_eq_true c; omega
        have e : isLine r.2.2 (.tup us) = false := by simp only [isLine, decide_eq_false hl, Bool.false_and]
        rw [e] at hQ
        exact Ret.of hQ
      · have hl : us.length ≤ 40 := by have := of_decide_eq_false c; omega
        have e : isLine r.2.2 (.tup us) = us.all fun x => isWithin x 0 (r.2.2 - 1) := by simp only [isLine, decide_eq_true hl, Bool.true_and]
        rw [e] at hQ
        intro D hD
        refine ⟨by omega, fun k acc G' => acc = (us.take k).filter (fun x => !isWithin x 0 (r.2.2 - 1)) ∧ Sub G G' ∧ G' D = some (.lst acc), ⟨rfl, (Sub.refl _).new hD, gput_same⟩, ?_, ?_, ?_⟩
        · rintro k acc G' hk ⟨rfl, s, e⟩
          refine ⟨trivial, e, Nat.le_trans (List.length_filter_le _ _) ?_⟩
          rw [List.length_take]; omega
        · rintro k t acc G' ht ⟨rfl, s, e⟩
          refine ⟨t, 0, r.2.2 - 1, rfl, AnyT.sub s _ (anyTs_mem ha t (List.mem_of_getElem? ht)), ?_⟩
          refine ⟨fun c => ?_, fun c => ?_⟩
          · refine ⟨e, _, Sub.refl _, ?_, s.mut hD, gput_same⟩
            rw [take_one ht, List.filter_append]
            congr 1
            simp [c]
          · refine ⟨_, Sub.refl _, ?_, s, e⟩
            rw [take_one ht, List.filter_append]
            have : List.filter (fun x => !isWithin x 0 (r.2.2 - 1)) [t] = [] := by simp [c]
            rw [this, List.append_nil]
        · rintro acc G' ⟨rfl, s, e⟩
          rw [List.take_length] at e
          intro p hp
          refine ⟨_, [], (Sub.refl _).new hp _ _ e, gput_same, fun hz => ?_, ?_⟩
          · rw [List.eq_nil_of_length_eq_zero hz]; exact ⟨rfl, rfl⟩
          · refine ⟨G, s.new hp, ?_⟩
            rw [teqs_nil, filter_empty, Bool.false_bne]
            exact hQ
    | _ => exact ⟨fun _ => ⟨fun _ => Ret.of hQ, fun c => (by cases c)⟩, fun c => (by cases c)⟩
abbrev s_law : Stmt := topS 29
abbrev N_law : List Str := ["script", "k", "bag", "rules", "edge", "fits", "long", "thing", "told", "one", "two", "three", "turn", "said"]
theorem sc_law : FnScope N_law ["script"] (defScope s_law) := ⟨rfl, rfl, rfl, by decide +kernel, rfl, by decide +kernel, by decide +kernel⟩
theorem min2_le {a b : Int} (h : 0 ≤ a) (hb : 0 ≤ b) : 0 ≤ (if b < a then b else a) ∧ (if b < a then b else a) ≤ a ∧ (if b < a then b else a) ≤ b := by split <;> omega
theorem any_ints {G : Gp} (l : List Int) : AnyT G (lnT l) := anyTs_of fun t ht => by
  obtain ⟨i, _, rfl⟩ := List.mem_map.mp ht
  trivial
theorem teqs_bools (a b c : Bool) : teqs [.bl a, .bl b, .bl c] [.bl a, .bl b, .bl c] = true := by simp [teqs, teq]
theorem dat_small {av : List Addr} {G : Gp} {k n : Nat} {i : Int} (h : i.natAbs ≤ 2000000) : Dat av G k n (.int i) := Dat.int.mpr (by
  have : 2 ^ 120 ≤ 2 ^ (120 + k) := Nat.pow_le_pow_right (by decide) (by omega)
  have : 2000001 ≤ 2 ^ 120 := by decide
  omega)
theorem dat_tup {av : List Addr} {G : Gp} {k n : Nat} {ts : List T} (h : ts.length ≤ 400) (h2 : ∀ t ∈ ts, Dat av G k n t) : Dat av G k (n + 1) (.tup ts) := ⟨by omega, h2⟩
theorem dat_fr {av : List Addr} {G : Gp} {k n : Nat} {p : Int × Int} (h1 : p.1.natAbs ≤ 2000000) (h2 : p.2.natAbs ≤ 2000000) : Dat av G k (n + 1) (fr p) := dat_tup (by show 2 ≤ 400; decide) fun t ht => by
  simp only [List.mem_cons, List.not_mem_nil, or_false] at ht
  rcases ht with rfl | rfl
  · exact dat_small h1
  · exact dat_small h2
theorem dat_ru {av : List Addr} {G : Gp} {k n : Nat} {r : Ru} (h : RuOk r) : Dat av G k (n + 2) (ruT r) := by
  have := h.s0; have := h.s1; have := h.s2; have := h.w0; have := h.w1; have := h.w2; have := h.w3; have := h.l0; have := h.l1
  refine dat_tup (by show 3 ≤ 400; decide) fun t ht => ?_
  simp only [List.mem_cons, List.not_mem_nil, or_false] at ht
  rcases ht with rfl | rfl | rfl
  · exact dat_fr (by omega) (by omega)
  · exact dat_fr (by omega) (by omega)
  · exact dat_small (by omega)
theorem ok_law_fn {P : Program} {w : World} {K : PySem.W.Frag} {mg : Str → Option Value} {base : Heap} {f : Addr} {fd : FuncData} (F : Fun K "law" "law" s_law f fd) (TX : Txt K mg) (D_law_bag : DefOk P w K mg base 1 "_law_bag" ["script", "k"] sp_law_bag) (D_law_rules : DefOk P w K mg base 2 "_law_rules" ["bag"] sp_law_rules) (D_law_of : DefOk P w K mg base 2 "_law_of" ["bag", "some"] sp_law_of) (D_law_odd : DefOk P w K mg base 2 "_law_odd" ["bag"] sp_law_odd) (D_is_line : DefOk P w K mg base 3 "is_line" ["rules", "thing"] sp_is_line) (D_is_size : DefOk P w K mg base 4 "is_size" ["thing"] sp_is_size) (D_are_rules : DefOk P w K mg base 4 "are_rules" ["thing"] sp_are_rules) (D_law_is_line : DefOk P w K mg base 2 "_law_is_line" ["rules", "thing"] sp_law_is_line) (D_law_is_size : DefOk P w K mg base 3 "_law_is_size" ["thing"] sp_law_is_size) (D_law_are_rules : DefOk P w K mg base 3 "_law_are_rules" ["thing"] sp_law_are_rules) (D_law_line : DefOk P w K mg base 2 "_law_line" ["bag", "rules", "most"] sp_law_line) (D_law_size : DefOk P w K mg base 2 "_law_size" ["bag"] sp_law_size) (D_law_spoilt : DefOk P w K mg base 27 "_law_spoilt" ["bag", "thing"] (sp_law_spoilt 24)) :
    FnOk P w K mg base CX0 28 f fd ["script"] (cSp K spLaw) := by
  refine okq F sc_law (fun ts G Q E h => ?len) (fun cdv A outer s H E hr => ss_cons (s_for (own := [1]) PassesOwn.never rfl (i_rng1 (by rfl) TX.n_range (a_cons (e_op o_add (e_int) (e_callB (b_min2 rfl) (by rfl) TX.n_min (by decide +kernel) (a_cons (e_callB b_len (by rfl) TX.n_len (by decide +kernel) (a_cons (e_var 0) a_nil)) (a_cons (e_int) a_nil)))) a_nil)) (g_name (i := 1) sc_law.nd rfl (by first | exact Or.inl rfl | exact Or.inr rfl)) (ss_cons (s_set (i := 2) sc_law.nd rfl (by first | exact Or.inl rfl | exact Or.inr rfl) (e_callD D_law_bag (hr.mono (by decide)) (by rfl) (a_cons (e_var 0) (a_cons (e_var 1) a_nil))))
    (ss_cons (s_set (i := 3) sc_law.nd rfl (by first | exact Or.inl rfl | exact Or.inr rfl) (e_callD D_law_rules (hr.mono (by decide)) (by rfl) (a_cons (e_var 2) a_nil)))
    (ss_cons (s_set (i := 4) sc_law.nd rfl (by first | exact Or.inl rfl | exact Or.inr rfl) (e_tup (a_cons (e_callD D_law_of (hr.mono (by decide)) (by rfl) (a_cons (e_var 2) (a_cons (e_lst (a_cons (e_tup (a_cons (e_int) (a_cons (e_int) a_nil))) (a_cons (e_tup (a_cons (e_int) (a_cons (e_int) a_nil))) (a_cons (e_tup (a_cons (e_int) (a_cons (e_int) a_nil))) (a_cons (e_tup (a_cons (e_int) (a_cons (e_int) a_nil))) (a_cons (e_tup (a_cons (e_int) (a_cons (e_int) a_nil))) a_nil)))))) a_nil))) (a_cons (e_callD D_law_of (hr.mono (by decide)) (by rfl) (a_cons (e_var 2) (a_cons (e_lst (a_cons (e_tup (a_cons (e_int) (a_cons (e_int) a_nil))) (a_cons (e_tup (a_cons (e_int) (a_cons (e_int) a_nil))) a_nil))) a_nil))) (a_cons (e_int) a_nil)))))
    (ss_cons (s_set (i := 5) sc_law.nd rfl (by first | exact Or.inl rfl | exact Or.inr rfl) (e_lst (a_cons (e_tup (a_cons (e_int) (a_cons (e_int) a_nil))) (a_cons (e_tup (a_cons (e_int) (a_cons (e_int) a_nil))) (a_cons (e_tup (a_cons (e_int) (a_cons (e_int) a_nil))) (a_cons (e_tup (a_cons (e_int) (a_cons (e_int) a_nil))) (a_cons (e_tup (a_cons (e_int) (a_cons (e_int) a_nil))) (a_cons (e_tup (a_cons (e_int) (a_cons (e_int) a_nil))) (a_cons (e_tup (a_cons (e_neg (e_int)) (a_cons (e_int) a_nil))) a_nil)))))))))
    (ss_cons (s_set (i := 6) sc_law.nd rfl (by first | exact Or.inl rfl | exact Or.inr rfl) (e_tup (a_cons (e_op o_mul2 (e_tup (a_cons (e_int) a_nil)) (e_int)) (a_cons (e_op o_mul2 (e_tup (a_cons (e_int) a_nil)) (e_int)) (a_cons (e_tup (a_cons (e_ix i_ixC (e_var 3) (e_int) (fun _ _ => rfl)) a_nil)) (a_cons (e_tup (a_cons (e_bl) a_nil)) (a_cons (e_tup (a_cons (e_op o_sub (e_ix i_ixC (e_var 3) (e_int) (fun _ _ => rfl)) (e_int)) a_nil)) a_nil)))))))
    (ss_cut (s_for (own := [7]) PassesOwn.never rfl (i_seq (e_lst (a_cons (e_var 4) (a_cons (e_callD D_law_of (hr.mono (by decide)) (by rfl) (a_cons (e_var 2) (a_cons (e_var 5) a_nil))) (a_cons (e_callD D_law_of (hr.mono (by decide)) (by rfl) (a_cons (e_var 2) (a_cons (e_var 6) a_nil))) (a_cons (e_callD D_law_odd (hr.mono (by decide)) (by rfl) (a_cons (e_var 2) a_nil)) (a_cons (e_tup (a_nil)) a_nil))))))) (g_name (i := 7) sc_law.nd rfl (by first | exact Or.inl rfl | exact Or.inr rfl)) (ss_cons (s_set (i := 8) sc_law.nd rfl (by first | exact Or.inl rfl | exact Or.inr rfl) (e_lst (a_cons (e_callD D_are_rules (hr.mono (by decide)) (by rfl) (a_cons (e_var 7) a_nil)) (a_cons (e_callD D_is_size (hr.mono (by decide)) (by rfl) (a_cons (e_var 7) a_nil)) (a_cons (e_callD D_is_line (hr.mono (by decide)) (by rfl) (a_cons (e_var 3) (a_cons (e_var 7) a_nil))) a_nil)))))
    (ss_one (s_if (t_cmp (o_ne hr.units) (e_var 8) (e_lst (a_cons (e_callD D_law_are_rules (hr.mono (by decide)) (by rfl) (a_cons (e_var 7) a_nil)) (a_cons (e_callD D_law_is_size (hr.mono (by decide)) (by rfl) (a_cons (e_var 7) a_nil)) (a_cons (e_callD D_law_is_line (hr.mono (by decide)) (by rfl) (a_cons (e_var 3) (a_cons (e_var 7) a_nil))) a_nil)))) (nomark _)) (ss_one (s_ret (e_bl))) (ss_nil)))))
    (ss_cons (s_par3 (i := 9) (j := 10) (l := 11) rfl sc_law.nd rfl rfl rfl  (by decide) (by decide) (by decide)  rfl rfl rfl  (a_cons (e_var 3) (a_cons (e_callD D_law_size (hr.mono (by decide)) (by rfl) (a_cons (e_var 2) a_nil)) (a_cons (e_callD D_law_line (hr.mono (by decide)) (by rfl) (a_cons (e_var 2) (a_cons (e_var 3) (a_cons (e_int) a_nil)))) a_nil))) rfl)
    (ss_one (s_for (own := [12]) PassesOwn.never rfl (i_rng1 (by rfl) TX.n_range (a_cons (e_int) a_nil)) (g_name (i := 12) sc_law.nd rfl (by first | exact Or.inl rfl | exact Or.inr rfl)) (ss_cons (s_set (i := 8) sc_law.nd rfl (by first | exact Or.inl rfl | exact Or.inr rfl) (e_lst (a_cons (e_callD D_are_rules (hr.mono (by decide)) (by rfl) (a_cons (e_var 9) a_nil)) (a_cons (e_callD D_is_size (hr.mono (by decide)) (by rfl) (a_cons (e_var 10) a_nil)) (a_cons (e_callD D_is_line (hr.mono (by decide)) (by rfl) (a_cons (e_var 3) (a_cons (e_var 11) a_nil))) a_nil)))))
    (ss_cons (s_if (t_cmp (o_ne hr.units) (e_var 8) (e_lst (a_cons (e_callD D_law_are_rules (hr.mono (by decide)) (by rfl) (a_cons (e_var 9) a_nil)) (a_cons (e_callD D_law_is_size (hr.mono (by decide)) (by rfl) (a_cons (e_var 10) a_nil)) (a_cons (e_callD D_law_is_line (hr.mono (by decide)) (by rfl) (a_cons (e_var 3) (a_cons (e_var 11) a_nil))) a_nil)))) (nomark _)) (ss_one (s_ret (e_bl))) (ss_nil))
    (ss_cons (s_if (t_cmp (o_ne hr.units) (e_lc (own := [("said", 13)]) rfl sc_law.nd (i_seq (e_var 8)) (blkOk_by (N := N_law) (sc := defScope s_law) (own := [("said", 13)]) (by decide +kernel)) (fun _ _ _ _ _ => g_name (i := 13) sc_law.nd rfl (by first | exact Or.inl rfl | exact Or.inr rfl)) (fun _ _ _ _ _ => ts_one (t_not (t_tr (e_callB b_isi (by rfl) TX.n_isinstance (by decide +kernel) (a_cons (e_var 13) (a_cons (e_ty .bool (by rfl) TX.n_bool (by decide +kernel)) a_nil)))))) (fun _ _ _ _ _ => e_var 13)) (e_lst (a_nil)) (nomark _)) (ss_one (s_ret (e_bl))) (ss_nil))
    (ss_one (s_asg (own := [9, 10, 11]) (e_lc (own := [("thing", 7)]) rfl sc_law.nd (i_seq (e_lst (a_cons (e_var 9) (a_cons (e_var 10) (a_cons (e_var 11) a_nil))))) (blkOk_by (N := N_law) (sc := defScope s_law) (own := [("thing", 7)]) (by decide +kernel)) (fun _ _ _ _ _ => g_name (i := 7) sc_law.nd rfl (by first | exact Or.inl rfl | exact Or.inr rfl)) (fun _ _ _ _ _ => ts_nil) (fun _ _ _ _ _ => e_callD D_law_spoilt hr (by rfl) (a_cons (e_var 2) (a_cons (e_var 7) a_nil)))) (g_unl (n := 3) rfl (gs_cons (g_name (i := 9) sc_law.nd rfl (by first | exact Or.inl rfl | exact Or.inr rfl)) (gs_cons (g_name (i := 10) sc_law.nd rfl (by first | exact Or.inl rfl | exact Or.inr rfl)) (gs_cons (g_name (i := 11) sc_law.nd rfl (by first | exact Or.inl rfl | exact Or.inr rfl)) (gs_nil))))))))))))))))))))
    (ss_one (s_ret (e_bl))))
    (fun ts G Q E h => ?run)
  case len => obtain ⟨ns, rfl, _⟩ := h; rfl
  case run =>
    obtain ⟨ns, rfl, hn, hG, hQ⟩ := h
    obtain ⟨m0, m1, m2⟩ := min2_le (a := (ns.length : Int)) (b := 30) (by omega) (by decide)
    refine ⟨by omega, ?_⟩
    refine ⟨fun i ρ G' => ρ = [some (.scr ns), none, none, none, none, none, none, none, none, none, none, none, none, none] ∧ True, ⟨rfl, trivial⟩, fun _ _ _ _ _ => trivial, ?_, ?_⟩
    · rintro i t ρ G' ht ⟨rfl, _⟩
      obtain ⟨hi, rfl⟩ := rngT_at ht
      refine ⟨⟨by omega, by omega, hn⟩, fun b c1 c2 hb hc => ?_⟩
      have t0 : BT b (gput G' b (bagO c1 c2)) (gput G' b (bagO c1 c2)) := BT.start ⟨c1, c2, gput_same, hc⟩
      refine ⟨t0.bag, fun r G1 hr g1 => ?_⟩
      have t1 := t0.to g1
      have l0 := hr.l0
      have l1 := hr.l1
      -- edge
      intro p1 hp1
      have t2 := t1.new (o := .lst [fr (19, 20), fr (20, 21), fr (1, 1), fr (0, 1), fr (1, 2)]) hp1
      refine ⟨b, .ref p1, _, rfl, ⟨t2.bag, .inr ⟨p1, rfl, (bag_new t1.bag hp1).symm, gput_same⟩, by simp, by decide⟩, fun e1 he1 G3 g3 => ?_⟩
      have t3 := t2.to g3
      intro p2 hp2
      have t4 := t3.new (o := .lst [fr (1000, 1), fr (1001, 1)]) hp2
      refine ⟨b, .ref p2, _, rfl, ⟨t4.bag, .inr ⟨p2, rfl, (bag_new t3.bag hp2).symm, gput_same⟩, by simp, by decide⟩, fun e2 he2 G5 g5 => ?_⟩
      have t5 := t4.to g5
      have ae1 : ∀ G : Gp, AnyT G e1 := fun G => by
        simp only [List.mem_cons, List.not_mem_nil, or_false] at he1
        rcases he1 with rfl | rfl | rfl | rfl | rfl <;> exact ⟨trivial, trivial, trivial⟩
      have ae2 : ∀ G : Gp, AnyT G e2 := fun G => by
        simp only [List.mem_cons, List.not_mem_nil, or_false] at he2
        rcases he2 with rfl | rfl <;> exact ⟨trivial, trivial, trivial⟩
      -- fits
      intro p3 hp3
      generalize hF : ([T.tup [.int 1000000, .int 1], .tup [.int 1000001, .int 1], .tup [.int 1, .int 1000], .tup [.int 1, .int 1001], .tup [.int 0, .int 1], .tup [.int 2, .int 4], .tup [.int (-1), .int 2]] : List T) = FF at *
      have aF : ∀ t ∈ FF, ∀ G : Gp, AnyT G t := fun t ht G => by
        rw [← hF] at ht
        simp only [List.mem_cons, List.not_mem_nil, or_false] at ht
        rcases ht with rfl | rfl | rfl | rfl | rfl | rfl | rfl <;> exact ⟨trivial, trivial, trivial⟩
      have lF : FF.length = 7 := by rw [← hF]; rfl
      have t6 := t5.new (o := .lst FF) hp3
      -- long
      refine ⟨by decide, by decide, by decide, ?_⟩
      refine ⟨by decide, by decide, by decide, ?_⟩
      generalize hL : ([T.tup (List.replicate (Int.toNat 40) [T.int 0]).flatten, .tup (List.replicate (Int.toNat 41) [T.int 0]).flatten, .tup [.int r.2.2], .tup [.bl true], .tup [.int (r.2.2 - 1)]] : List T) = LL at *
      have fl : ∀ n : Nat, (List.replicate n [T.int 0]).flatten = (List.replicate n (0 : Int)).map T.int := fun n => by rw [flat_rep, List.map_replicate]
      have aL : ∀ t ∈ LL, ∀ G : Gp, AnyT G t := fun t ht G => by
        rw [← hL] at ht
        simp only [List.mem_cons, List.not_mem_nil, or_false] at ht
        rcases ht with rfl | rfl | rfl | rfl | rfl
        · rw [fl]; exact any_ints _
        · rw [fl]; exact any_ints _
        · exact ⟨trivial, trivial⟩
        · exact ⟨trivial, trivial⟩
        · exact ⟨trivial, trivial⟩
      have lL : LL.length = 5 := by rw [← hL]; rfl
      refine ⟨fun ρ G' => ρ = [some (.scr ns), some (.int i), some (.ref b), some (ruT r), none, none, none, none, none, none, none, none, none, none] ∧ Bag G' b, ?_, ?_⟩
      · refine ⟨b, .ref p3, FF, rfl, ⟨t6.bag, .inr ⟨p3, rfl, (bag_new t5.bag hp3).symm, gput_same⟩, (by intro z; rw [z] at lF; cases lF), by omega⟩, fun f1 hf1 G7 g7 => ?_⟩
        have t7 := t6.to g7
        refine ⟨b, .tup LL, LL, by rw [hL], ⟨t7.bag, .inl rfl, (by intro z; rw [z] at lL; cases lL), by omega⟩, fun f2 hf2 G8 g8 => ?_⟩
        have t8 := t7.to g8
        refine ⟨b, [b], rfl, List.mem_singleton.mpr rfl, fun a ha => ?_, t8.bag, fun y G9 t9 d9 => ?_⟩
        · rw [List.mem_singleton.mp ha]
          obtain ⟨d1, d2, z, _⟩ := t8.bag
          exact ⟨_, z⟩
        intro p4 hp4
        have s9 := (Sub.refl G9).new (o := .lst [.tup [e1, e2, .int 6], f1, f2, y, .tup []]) hp4
        have all : ∀ t ∈ ([.tup [e1, e2, .int 6], f1, f2, y, .tup []] : List T), AnyT G9 t := fun t ht => by
          simp only [List.mem_cons, List.not_mem_nil, or_false] at ht
          rcases ht with rfl | rfl | rfl | rfl | rfl
          · exact ⟨ae1 _, ae2 _, trivial, trivial⟩
          · exact aF _ hf1 _
          · exact aL _ hf2 _
          · exact d9.any
          · trivial
        refine ⟨_, gput_same, fun j ρ G' => ρ = [some (.scr ns), some (.int i), some (.ref b), some (ruT r), some (.tup [e1, e2, .int 6]), some (.ref p3), some (.tup LL), none, none, none, none, none, none, none] ∧ Sub (gput G9 p4 (.lst [.tup [e1, e2, .int 6], f1, f2, y, .tup []])) G',
          ⟨by rw [hL], Sub.refl _⟩, fun _ _ _ _ hI => hI.2 _ _ gput_same, ?_, ?_⟩
        · rintro j t ρ G' ht ⟨rfl, sG⟩
          have at0 := AnyT.sub (s9.trans sG) _ (all t (List.mem_of_getElem? ht))
          refine ⟨t, rfl, at0, t, rfl, at0, r, t, rfl, at0, ?_⟩
          intro p5 hp5
          have s5 := (Sub.refl G').new (o := .lst [.bl (areRules t), .bl (isSize t), .bl (isLine r.2.2 t)]) hp5
          have at1 := AnyT.sub s5 _ at0
          refine ⟨t, rfl, at1, t, rfl, at1, r, t, rfl, at1, ?_⟩
          intro p6 hp6
          refine ⟨_, _, (Sub.refl _).new hp6 _ _ gput_same, gput_same, rfl, rfl, fun c => dead (by rw [teqs_bools]; rfl) c, fun _ => ?_⟩
          exact ⟨_, _, .keep _ (.keep _ (.keep _ (.keep _ (.keep _ (.keep _ (.keep _ (.drop _ (.drop _ (.drop _ (.drop _ (.drop _ (.drop _ (.drop _ .nil))))))))))))), Sub.refl _, rfl, (sG.new hp5).new hp6⟩
        · rintro ρ G' ⟨rfl, sG⟩
          refine ⟨_, _, .keep _ (.keep _ (.keep _ (.keep _ (.drop _ (.drop _ (.drop _ (.drop _ (.drop _ (.drop _ (.drop _ (.drop _ (.drop _ (.drop _ .nil))))))))))))), Sub.refl _, rfl, ?_⟩
          obtain ⟨d1, d2, z, ok⟩ := t9.bag
          exact ⟨d1, d2, (s9.trans sG) _ _ z, ok⟩
      · rintro ρ Ga ⟨rfl, hb⟩
        have u0 := BT.start hb
        refine ⟨hb, fun s Gb hs gb => ?_⟩
        have u1 := u0.to gb
        refine ⟨b, r, 40, rfl, ⟨u1.bag, l0, l1, by decide, by decide⟩, fun l Gc hl zl gc => ?_⟩
        have u2 := u1.to gc
        refine ⟨by decide, ?_⟩
        refine ⟨fun k ρ G' => ∃ x y z, ρ = [some (.scr ns), some (.int i), some (.ref b), some (ruT r), none, none, none, none, none, some x, some y, some z, none, none] ∧ Bag G' b ∧ Dat [b] G' k (2 + 3 * k) x ∧ Dat [b] G' k (2 + 3 * k) y ∧ Dat [b] G' k (2 + 3 * k) z,
          ⟨ruT r, fr s, lnT l, rfl, u2.bag, dat_ru hr, ?_, ?_⟩, fun _ _ _ _ _ => trivial, ?_, ?_⟩
        · have := hs.t0; have := hs.t1; have := hs.b0; have := hs.b1
          exact dat_fr (by omega) (by omega)
        · exact dat_tup (by rw [List.length_map]; omega) (Dat.ints fun n hn => by
            have := hl n hn
            have : 2 ^ 120 ≤ 2 ^ (120 + 0) := Nat.le_refl _
            have : 2000001 ≤ 2 ^ 120 := by decide
            omega)
        · rintro k t ρ G' ht ⟨x, y, z, rfl, hb', dx, dy, dz⟩
          obtain ⟨hk, rfl⟩ := rngT_at ht
          have hk6 : k < 6 := hk
          refine ⟨x, rfl, dx.any, y, rfl, dy.any, r, z, rfl, dz.any, ?_⟩
          intro p5 hp5
          have s5 := (Sub.refl G').new (o := .lst [.bl (areRules x), .bl (isSize y), .bl (isLine r.2.2 z)]) hp5
          refine ⟨x, rfl, AnyT.sub s5 _ dx.any, y, rfl, AnyT.sub s5 _ dy.any, r, z, rfl, AnyT.sub s5 _ dz.any, ?_⟩
          intro p6 hp6
          have s6 := s5.new (o := .lst [.bl (areRules x), .bl (isSize y), .bl (isLine r.2.2 z)]) hp6
          refine ⟨_, _, (Sub.refl _).new hp6 _ _ gput_same, gput_same, rfl, rfl, fun c => dead (by rw [teqs_bools]; rfl) c, fun _ => ?_⟩
          -- all are truths
          have e5 := (Sub.refl _).new (o := .lst [.bl (areRules x), .bl (isSize y), .bl (isLine r.2.2 z)]) hp6 _ _ (gput_same (G := G') (a := p5) (o := .lst [.bl (areRules x), .bl (isSize y), .bl (isLine r.2.2 z)]))
          refine ⟨_, e5, ?_⟩
          intro D hD
          refine ⟨(show 3 ≤ 100000 by decide), fun j acc G2 => acc = [] ∧ Sub (gput (gput G' p5 (.lst [.bl (areRules x), .bl (isSize y), .bl (isLine r.2.2 z)])) p6 (.lst [.bl (areRules x), .bl (isSize y), .bl (isLine r.2.2 z)])) G2 ∧ G2 D = some (.lst []), ⟨rfl, (Sub.refl _).new hD, gput_same⟩, ?_, ?_, ?_⟩
          · rintro j acc G2 hj ⟨rfl, s2, e2⟩
            exact ⟨s2 _ _ e5, e2, Nat.zero_le _⟩
          · rintro j t acc G2 ht2 ⟨rfl, s2, e2⟩
            obtain ⟨c, rfl⟩ : ∃ c, t = .bl c := by
              have hm := List.mem_of_getElem? ht2
              simp only [List.mem_cons, List.not_mem_nil, or_false] at hm
              rcases hm with e | e | e <;> exact ⟨_, e⟩
            exact ⟨fun z => (by cases z), fun _ => ⟨_, Sub.refl _, rfl, s2, e2⟩⟩
          · rintro acc G2 ⟨rfl, s2, e2⟩
            intro p7 hp7
            refine ⟨_, _, (Sub.refl _).new hp7 _ _ e2, gput_same, rfl, rfl, fun c => (by cases c), fun _ => ?_⟩
            have s7 := (s6.trans s2).new (o := .lst []) hp7
            -- each spoilt
            intro p8 hp8
            have hb7 : ∀ G'' : Gp, Sub G' G'' → Bag G'' b := fun G'' s => by
              obtain ⟨d1, d2, z, ok⟩ := hb'
              exact ⟨d1, d2, s _ _ z, ok⟩
            have f8 : ∀ t : T, Dat [b] G' k (2 + 3 * k) t → Dat [p8, b] (gput (gput G2 p7 (.lst [])) p8 (.lst [x, y, z])) k (2 + 3 * k) t := fun t d => (d.off (Off.sub s7)).fresh hp8
            refine ⟨_, gput_same, ?_⟩
            intro D2 hD2
            have n82 : p8 ≠ D2 := gne gput_same hD2
            have nb8 : b ≠ p8 := bag_new (hb7 _ s7) hp8
            have nb2 : b ≠ D2 := bag_new (hb7 _ (s7.new hp8)) hD2
            have f9 : ∀ t : T, Dat [b] G' k (2 + 3 * k) t → Dat [D2, p8, b] (gput (gput (gput G2 p7 (.lst [])) p8 (.lst [x, y, z])) D2 (.lst [])) k (2 + 3 * k) t := fun t d => (f8 t d).fresh hD2
            refine ⟨(show 3 ≤ 100000 by decide), fun j acc G3 => acc.length = j ∧ G3 D2 = some (.lst acc) ∧ G3 p8 = some (.lst [x, y, z]) ∧ Bag G3 b ∧ Dat [D2, p8, b] G3 k (2 + 3 * k) x ∧ Dat [D2, p8, b] G3 k (2 + 3 * k) y ∧ Dat [D2, p8, b] G3 k (2 + 3 * k) z ∧ ∀ t ∈ acc, Dat [D2, p8, b] G3 (k + 1) (2 + 3 * k + 3) t,
              ⟨rfl, gput_same, (Sub.refl _).new hD2 _ _ gput_same, hb7 _ ((s7.new hp8).new hD2), f9 x dx, f9 y dy, f9 z dz, fun t h => (by cases h)⟩, ?_, ?_, ?_⟩
            · rintro j acc G3 hj ⟨rfl, q1, q2, _⟩
              exact ⟨q2, q1, Nat.le_refl _⟩
            · rintro j t acc G3 ht3 ⟨rfl, q1, q2, q3, q4, q5, q6, q7⟩
              refine ⟨fun _ => ?_, fun z => by cases z⟩
              have dt : Dat [D2, p8, b] G3 k (2 + 3 * k) t := by
                have hm := List.mem_of_getElem? ht3
                simp only [List.mem_cons, List.not_mem_nil, or_false] at hm
                rcases hm with rfl | rfl | rfl
                · exact q4
                · exact q5
                · exact q6
              have mb : b ∈ [D2, p8, b] := by simp
              refine ⟨b, [D2, p8, b], t, 2 + 3 * k, k, rfl, by omega, by omega, mb, ?_, q3, dt, fun w G4 t4 d4 => ?_⟩
              · intro a ha
                simp only [List.mem_cons, List.not_mem_nil, or_false] at ha
                rcases ha with rfl | rfl | rfl
                · exact ⟨_, q1⟩
                · exact ⟨_, q2⟩
                · obtain ⟨d1, d2, z, _⟩ := q3
                  exact ⟨_, z⟩
              · have oD : Off [D2, p8, b] G3 (gput G4 D2 (.lst (acc ++ [w]))) := Off.put (by simp) (Off.bt mb t4)
                have oW : Off [D2, p8, b] G4 (gput G4 D2 (.lst (acc ++ [w]))) := Off.put (by simp) (Off.refl _ _)
                refine ⟨t4.get nb2.symm q1, _, Sub.refl _, by simp, gput_same, ?_, ?_, q4.off oD, q5.off oD, q6.off oD, fun u hu => ?_⟩
                · rw [gput_ne n82]; exact t4.get nb8.symm q2
                · obtain ⟨d1, d2, z, ok⟩ := t4.bag
                  exact ⟨d1, d2, by rw [gput_ne nb2]; exact z, ok⟩
                · rcases List.mem_append.mp hu with e | e
                  · exact (q7 u e).off oD
                  · rw [List.mem_singleton.mp e]; exact d4.off oW
            · rintro acc G3 ⟨hl3, q1, q2, q3, q4, q5, q6, q7⟩
              have hl3 : acc.length = 3 := hl3
              obtain ⟨x', y', z', rfl⟩ : ∃ x' y' z', acc = [x', y', z'] := by
                match acc, hl3 with
                | [x', y', z'], _ => exact ⟨x', y', z', rfl⟩
              refine ⟨_, q1, rfl, ?_⟩
              have dn : ∀ t ∈ [x', y', z'], Dat [b] G3 (k + 1) (2 + 3 * (k + 1)) t := fun t ht => (q7 t ht).mono (Nat.le_refl _) (fun a ha => by rw [List.mem_singleton.mp ha]; simp) (fun _ _ _ e => e) (by omega)
              exact ⟨_, _, .keep _ (.keep _ (.keep _ (.keep _ (.drop _ (.drop _ (.drop _ (.drop _ (.drop _ (.keep _ (.keep _ (.keep _ (.drop _ (.drop _ .nil))))))))))))), Sub.refl _, x', y', z', rfl, q3, dn x' (by simp), dn y' (by simp), dn z' (by simp)⟩
        · rintro ρ G' ⟨x, y, z, rfl, _⟩
          exact ⟨_, _, .keep _ (.drop _ (.drop _ (.drop _ (.drop _ (.drop _ (.drop _ (.drop _ (.drop _ (.drop _ (.drop _ (.drop _ (.drop _ (.drop _ .nil))))))))))))), Sub.refl _, rfl, trivial⟩
    · rintro ρ G' ⟨rfl, _⟩
      exact Ret.of (hQ _)
theorem all_mk {l : PySem.W.OpenLaw} {w : World} {K : PySem.W.Frag} {h : Heap} {mg : Str → Option Value} {fa : Addr} (X : K.In h) (G : h.Ns mainGlobals mg) (hfa : mg "law" = some (.ref fa))
    {f0 : Addr} {oc0 kV0 dc0 pm0 cd0 ct0 : Value} {od0 an0 : Option Addr} {sl0 : Array (Option Value)}
    {f1 : Addr} {oc1 kV1 dc1 pm1 cd1 ct1 : Value} {od1 an1 : Option Addr} {sl1 : Array (Option Value)}
    {f2 : Addr} {oc2 kV2 dc2 pm2 cd2 ct2 : Value} {od2 an2 : Option Addr} {sl2 : Array (Option Value)}
    {f3 : Addr} {oc3 kV3 dc3 pm3 cd3 ct3 : Value} {od3 an3 : Option Addr} {sl3 : Array (Option Value)}
    {f4 : Addr} {oc4 kV4 dc4 pm4 cd4 ct4 : Value} {od4 an4 : Option Addr} {sl4 : Array (Option Value)}
    {f5 : Addr} {oc5 kV5 dc5 pm5 cd5 ct5 : Value} {od5 an5 : Option Addr} {sl5 : Array (Option Value)}
    {f6 : Addr} {oc6 kV6 dc6 pm6 cd6 ct6 : Value} {od6 an6 : Option Addr} {sl6 : Array (Option Value)}
    {f7 : Addr} {oc7 kV7 dc7 pm7 cd7 ct7 : Value} {od7 an7 : Option Addr} {sl7 : Array (Option Value)}
    {f8 : Addr} {oc8 kV8 dc8 pm8 cd8 ct8 : Value} {od8 an8 : Option Addr} {sl8 : Array (Option Value)}
    {f9 : Addr} {oc9 kV9 dc9 pm9 cd9 ct9 : Value} {od9 an9 : Option Addr} {sl9 : Array (Option Value)}
    {f10 : Addr} {oc10 kV10 dc10 pm10 cd10 ct10 : Value} {od10 an10 : Option Addr} {sl10 : Array (Option Value)}
    {f11 : Addr} {oc11 kV11 dc11 pm11 cd11 ct11 : Value} {od11 an11 : Option Addr} {sl11 : Array (Option Value)}
    {f12 : Addr} {oc12 kV12 dc12 pm12 cd12 ct12 : Value} {od12 an12 : Option Addr} {sl12 : Array (Option Value)}
    {f13 : Addr} {oc13 kV13 dc13 pm13 cd13 ct13 : Value} {od13 an13 : Option Addr} {sl13 : Array (Option Value)}
    {f14 : Addr} {oc14 kV14 dc14 pm14 cd14 ct14 : Value} {od14 an14 : Option Addr} {sl14 : Array (Option Value)}
    {f15 : Addr} {oc15 kV15 dc15 pm15 cd15 ct15 : Value} {od15 an15 : Option Addr} {sl15 : Array (Option Value)}
    {f16 : Addr} {oc16 kV16 dc16 pm16 cd16 ct16 : Value} {od16 an16 : Option Addr} {sl16 : Array (Option Value)}
    {f17 : Addr} {oc17 kV17 dc17 pm17 cd17 ct17 : Value} {od17 an17 : Option Addr} {sl17 : Array (Option Value)}
    {f18 : Addr} {oc18 kV18 dc18 pm18 cd18 ct18 : Value} {od18 an18 : Option Addr} {sl18 : Array (Option Value)}
    {f19 : Addr} {oc19 kV19 dc19 pm19 cd19 ct19 : Value} {od19 an19 : Option Addr} {sl19 : Array (Option Value)}
    {f20 : Addr} {oc20 kV20 dc20 pm20 cd20 ct20 : Value} {od20 an20 : Option Addr} {sl20 : Array (Option Value)}
    {f21 : Addr} {oc21 kV21 dc21 pm21 cd21 ct21 : Value} {od21 an21 : Option Addr} {sl21 : Array (Option Value)}
    {t_MOST_LIFE : Tok}
    {t_MOST_PART : Tok}
    {t_MOST_WEAR : Tok}
    {t_MOST_BOTTOM : Tok}
    {t_MOST_TOP : Tok}
    {t_MOST_LINE : Tok}
    (a0 : PySem.W.nsIn K mainGlobals "is_whole" = some (some (.ref f0))) (l0 : K.lookup f0 = some ⟨oc0, od0, .func (PySem.W.fnOf "is_whole" "is_whole" (defArgs s_is_whole) (defBody s_is_whole) (defScope s_is_whole) .none kV0 dc0 pm0 an0 cd0 ct0), sl0⟩) (c0 : PySem.W.codeIn K cd0 "is_whole" = true) (k0 : PySem.W.keepIn K (.ref f0) = true)
    (a1 : PySem.W.nsIn K mainGlobals "is_within" = some (some (.ref f1))) (l1 : K.lookup f1 = some ⟨oc1, od1, .func (PySem.W.fnOf "is_within" "is_within" (defArgs s_is_within) (defBody s_is_within) (defScope s_is_within) .none kV1 dc1 pm1 an1 cd1 ct1), sl1⟩) (c1 : PySem.W.codeIn K cd1 "is_within" = true) (k1 : PySem.W.keepIn K (.ref f1) = true)
    (a2 : PySem.W.nsIn K mainGlobals "lowest" = some (some (.ref f2))) (l2 : K.lookup f2 = some ⟨oc2, od2, .func (PySem.W.fnOf "lowest" "lowest" (defArgs s_lowest) (defBody s_lowest) (defScope s_lowest) .none kV2 dc2 pm2 an2 cd2 ct2), sl2⟩) (c2 : PySem.W.codeIn K cd2 "lowest" = true) (k2 : PySem.W.keepIn K (.ref f2) = true)
    (a3 : PySem.W.nsIn K mainGlobals "is_part" = some (some (.ref f3))) (l3 : K.lookup f3 = some ⟨oc3, od3, .func (PySem.W.fnOf "is_part" "is_part" (defArgs s_is_part) (defBody s_is_part) (defScope s_is_part) .none kV3 dc3 pm3 an3 cd3 ct3), sl3⟩) (c3 : PySem.W.codeIn K cd3 "is_part" = true) (k3 : PySem.W.keepIn K (.ref f3) = true)
    (a4 : PySem.W.nsIn K mainGlobals "are_rules" = some (some (.ref f4))) (l4 : K.lookup f4 = some ⟨oc4, od4, .func (PySem.W.fnOf "are_rules" "are_rules" (defArgs s_are_rules) (defBody s_are_rules) (defScope s_are_rules) .none kV4 dc4 pm4 an4 cd4 ct4), sl4⟩) (c4 : PySem.W.codeIn K cd4 "are_rules" = true) (k4 : PySem.W.keepIn K (.ref f4) = true)
    (a5 : PySem.W.nsIn K mainGlobals "is_size" = some (some (.ref f5))) (l5 : K.lookup f5 = some ⟨oc5, od5, .func (PySem.W.fnOf "is_size" "is_size" (defArgs s_is_size) (defBody s_is_size) (defScope s_is_size) .none kV5 dc5 pm5 an5 cd5 ct5), sl5⟩) (c5 : PySem.W.codeIn K cd5 "is_size" = true) (k5 : PySem.W.keepIn K (.ref f5) = true)
    (a6 : PySem.W.nsIn K mainGlobals "is_line" = some (some (.ref f6))) (l6 : K.lookup f6 = some ⟨oc6, od6, .func (PySem.W.fnOf "is_line" "is_line" (defArgs s_is_line) (defBody s_is_line) (defScope s_is_line) .none kV6 dc6 pm6 an6 cd6 ct6), sl6⟩) (c6 : PySem.W.codeIn K cd6 "is_line" = true) (k6 : PySem.W.keepIn K (.ref f6) = true)
    (a7 : PySem.W.nsIn K mainGlobals "_law_bag" = some (some (.ref f7))) (l7 : K.lookup f7 = some ⟨oc7, od7, .func (PySem.W.fnOf "_law_bag" "_law_bag" (defArgs s_law_bag) (defBody s_law_bag) (defScope s_law_bag) .none kV7 dc7 pm7 an7 cd7 ct7), sl7⟩) (c7 : PySem.W.codeIn K cd7 "_law_bag" = true) (k7 : PySem.W.keepIn K (.ref f7) = true)
    (a8 : PySem.W.nsIn K mainGlobals "_law_take" = some (some (.ref f8))) (l8 : K.lookup f8 = some ⟨oc8, od8, .func (PySem.W.fnOf "_law_take" "_law_take" (defArgs s_law_take) (defBody s_law_take) (defScope s_law_take) .none kV8 dc8 pm8 an8 cd8 ct8), sl8⟩) (c8 : PySem.W.codeIn K cd8 "_law_take" = true) (k8 : PySem.W.keepIn K (.ref f8) = true)
    (a9 : PySem.W.nsIn K mainGlobals "_law_of" = some (some (.ref f9))) (l9 : K.lookup f9 = some ⟨oc9, od9, .func (PySem.W.fnOf "_law_of" "_law_of" (defArgs s_law_of) (defBody s_law_of) (defScope s_law_of) .none kV9 dc9 pm9 an9 cd9 ct9), sl9⟩) (c9 : PySem.W.codeIn K cd9 "_law_of" = true) (k9 : PySem.W.keepIn K (.ref f9) = true)
    (a10 : PySem.W.nsIn K mainGlobals "_law_within" = some (some (.ref f10))) (l10 : K.lookup f10 = some ⟨oc10, od10, .func (PySem.W.fnOf "_law_within" "_law_within" (defArgs s_law_within) (defBody s_law_within) (defScope s_law_within) .none kV10 dc10 pm10 an10 cd10 ct10), sl10⟩) (c10 : PySem.W.codeIn K cd10 "_law_within" = true) (k10 : PySem.W.keepIn K (.ref f10) = true)
    (a11 : PySem.W.nsIn K mainGlobals "_law_odd" = some (some (.ref f11))) (l11 : K.lookup f11 = some ⟨oc11, od11, .func (PySem.W.fnOf "_law_odd" "_law_odd" (defArgs s_law_odd) (defBody s_law_odd) (defScope s_law_odd) .none kV11 dc11 pm11 an11 cd11 ct11), sl11⟩) (c11 : PySem.W.codeIn K cd11 "_law_odd" = true) (k11 : PySem.W.keepIn K (.ref f11) = true)
    (a12 : PySem.W.nsIn K mainGlobals "_law_spoilt" = some (some (.ref f12))) (l12 : K.lookup f12 = some ⟨oc12, od12, .func (PySem.W.fnOf "_law_spoilt" "_law_spoilt" (defArgs s_law_spoilt) (defBody s_law_spoilt) (defScope s_law_spoilt) .none kV12 dc12 pm12 an12 cd12 ct12), sl12⟩) (c12 : PySem.W.codeIn K cd12 "_law_spoilt" = true) (k12 : PySem.W.keepIn K (.ref f12) = true)
    (a13 : PySem.W.nsIn K mainGlobals "_law_lowest" = some (some (.ref f13))) (l13 : K.lookup f13 = some ⟨oc13, od13, .func (PySem.W.fnOf "_law_lowest" "_law_lowest" (defArgs s_law_lowest) (defBody s_law_lowest) (defScope s_law_lowest) .none kV13 dc13 pm13 an13 cd13 ct13), sl13⟩) (c13 : PySem.W.codeIn K cd13 "_law_lowest" = true) (k13 : PySem.W.keepIn K (.ref f13) = true)
    (a14 : PySem.W.nsIn K mainGlobals "_law_rules" = some (some (.ref f14))) (l14 : K.lookup f14 = some ⟨oc14, od14, .func (PySem.W.fnOf "_law_rules" "_law_rules" (defArgs s_law_rules) (defBody s_law_rules) (defScope s_law_rules) .none kV14 dc14 pm14 an14 cd14 ct14), sl14⟩) (c14 : PySem.W.codeIn K cd14 "_law_rules" = true) (k14 : PySem.W.keepIn K (.ref f14) = true)
    (a15 : PySem.W.nsIn K mainGlobals "_law_size" = some (some (.ref f15))) (l15 : K.lookup f15 = some ⟨oc15, od15, .func (PySem.W.fnOf "_law_size" "_law_size" (defArgs s_law_size) (defBody s_law_size) (defScope s_law_size) .none kV15 dc15 pm15 an15 cd15 ct15), sl15⟩) (c15 : PySem.W.codeIn K cd15 "_law_size" = true) (k15 : PySem.W.keepIn K (.ref f15) = true)
    (a16 : PySem.W.nsIn K mainGlobals "_law_line" = some (some (.ref f16))) (l16 : K.lookup f16 = some ⟨oc16, od16, .func (PySem.W.fnOf "_law_line" "_law_line" (defArgs s_law_line) (defBody s_law_line) (defScope s_law_line) .none kV16 dc16 pm16 an16 cd16 ct16), sl16⟩) (c16 : PySem.W.codeIn K cd16 "_law_line" = true) (k16 : PySem.W.keepIn K (.ref f16) = true)
    (a17 : PySem.W.nsIn K mainGlobals "_law_is_part" = some (some (.ref f17))) (l17 : K.lookup f17 = some ⟨oc17, od17, .func (PySem.W.fnOf "_law_is_part" "_law_is_part" (defArgs s_law_is_part) (defBody s_law_is_part) (defScope s_law_is_part) .none kV17 dc17 pm17 an17 cd17 ct17), sl17⟩) (c17 : PySem.W.codeIn K cd17 "_law_is_part" = true) (k17 : PySem.W.keepIn K (.ref f17) = true)
    (a18 : PySem.W.nsIn K mainGlobals "_law_are_rules" = some (some (.ref f18))) (l18 : K.lookup f18 = some ⟨oc18, od18, .func (PySem.W.fnOf "_law_are_rules" "_law_are_rules" (defArgs s_law_are_rules) (defBody s_law_are_rules) (defScope s_law_are_rules) .none kV18 dc18 pm18 an18 cd18 ct18), sl18⟩) (c18 : PySem.W.codeIn K cd18 "_law_are_rules" = true) (k18 : PySem.W.keepIn K (.ref f18) = true)
    (a19 : PySem.W.nsIn K mainGlobals "_law_is_size" = some (some (.ref f19))) (l19 : K.lookup f19 = some ⟨oc19, od19, .func (PySem.W.fnOf "_law_is_size" "_law_is_size" (defArgs s_law_is_size) (defBody s_law_is_size) (defScope s_law_is_size) .none kV19 dc19 pm19 an19 cd19 ct19), sl19⟩) (c19 : PySem.W.codeIn K cd19 "_law_is_size" = true) (k19 : PySem.W.keepIn K (.ref f19) = true)
    (a20 : PySem.W.nsIn K mainGlobals "_law_is_line" = some (some (.ref f20))) (l20 : K.lookup f20 = some ⟨oc20, od20, .func (PySem.W.fnOf "_law_is_line" "_law_is_line" (defArgs s_law_is_line) (defBody s_law_is_line) (defScope s_law_is_line) .none kV20 dc20 pm20 an20 cd20 ct20), sl20⟩) (c20 : PySem.W.codeIn K cd20 "_law_is_line" = true) (k20 : PySem.W.keepIn K (.ref f20) = true)
    (a21 : PySem.W.nsIn K mainGlobals "law" = some (some (.ref f21))) (l21 : K.lookup f21 = some ⟨oc21, od21, .func (PySem.W.fnOf "law" "law" (defArgs s_law) (defBody s_law) (defScope s_law) .none kV21 dc21 pm21 an21 cd21 ct21), sl21⟩) (c21 : PySem.W.codeIn K cd21 "law" = true) (k21 : PySem.W.keepIn K (.ref f21) = true)
    (z_bool : PySem.W.nsIn K mainGlobals "bool" = some none) (z_int : PySem.W.nsIn K mainGlobals "int" = some none) (z_isinstance : PySem.W.nsIn K mainGlobals "isinstance" = some none) (z_len : PySem.W.nsIn K mainGlobals "len" = some none) (z_tuple : PySem.W.nsIn K mainGlobals "tuple" = some none) (z_MOST_LIFE : PySem.W.nsIn K mainGlobals "MOST_LIFE" = some (some (.int 6 t_MOST_LIFE))) (z_MOST_PART : PySem.W.nsIn K mainGlobals "MOST_PART" = some (some (.int 20 t_MOST_PART))) (z_MOST_WEAR : PySem.W.nsIn K mainGlobals "MOST_WEAR" = some (some (.int 1000 t_MOST_WEAR))) (z_MOST_BOTTOM : PySem.W.nsIn K mainGlobals "MOST_BOTTOM" = some (some (.int 1000 t_MOST_BOTTOM))) (z_MOST_TOP : PySem.W.nsIn K mainGlobals "MOST_TOP" = some (some (.int 1000000 t_MOST_TOP))) (z_MOST_LINE : PySem.W.nsIn K mainGlobals "MOST_LINE" = some (some (.int 40 t_MOST_LINE))) (z_all : PySem.W.nsIn K mainGlobals "all" = some none) (z_abs : PySem.W.nsIn K mainGlobals "abs" = some none) (z_list : PySem.W.nsIn K mainGlobals "list" = some none) (z_str : PySem.W.nsIn K mainGlobals "str" = some none) (z_range : PySem.W.nsIn K mainGlobals "range" = some none) (z_min : PySem.W.nsIn K mainGlobals "min" = some none) :
    ∃ fd : FuncData, (∀ (s : Shared) (v : Value), BindsTo s fd ⟨[v], []⟩ [("script", v)]) ∧ ∀ base : Heap, K.In base → base.Ns mainGlobals mg → FnOk l.prog w K mg base CX0 28 fa fd ["script"] (cSp K spLaw) := by
  have e := hfa.symm.trans (PySem.W.mg_of X G a21)
  cases e
  have T : Txt K mg := ⟨PySem.W.mg_none_of X G z_bool, PySem.W.mg_none_of X G z_int, PySem.W.mg_none_of X G z_isinstance, PySem.W.mg_none_of X G z_len, PySem.W.mg_none_of X G z_tuple, ⟨_, PySem.W.mg_of X G z_MOST_LIFE⟩, ⟨_, PySem.W.mg_of X G z_MOST_PART⟩, ⟨_, PySem.W.mg_of X G z_MOST_WEAR⟩, ⟨_, PySem.W.mg_of X G z_MOST_BOTTOM⟩, ⟨_, PySem.W.mg_of X G z_MOST_TOP⟩, ⟨_, PySem.W.mg_of X G z_MOST_LINE⟩, PySem.W.mg_none_of X G z_all, PySem.W.mg_none_of X G z_abs, PySem.W.mg_none_of X G z_list, PySem.W.mg_none_of X G z_str, PySem.W.mg_none_of X G z_range, PySem.W.mg_none_of X G z_min⟩
  have F0 : FunAt K mg "is_whole" "is_whole" s_is_whole ["thing"] := funAt_mk X G a0 l0 c0 k0 fun _ _ _ _ _ _ us hl => match us, hl with | [_], _ => rfl
  have F1 : FunAt K mg "is_within" "is_within" s_is_within ["thing", "least", "most"] := funAt_mk X G a1 l1 c1 k1 fun _ _ _ _ _ _ us hl => match us, hl with | [_, _, _], _ => rfl
  have F2 : FunAt K mg "lowest" "lowest" s_lowest ["top", "bottom"] := funAt_mk X G a2 l2 c2 k2 fun _ _ _ _ _ _ us hl => match us, hl with | [_, _], _ => rfl
  have F3 : FunAt K mg "is_part" "is_part" s_is_part ["thing", "most_top", "most_bottom"] := funAt_mk X G a3 l3 c3 k3 fun _ _ _ _ _ _ us hl => match us, hl with | [_, _, _], _ => rfl
  have F4 : FunAt K mg "are_rules" "are_rules" s_are_rules ["thing"] := funAt_mk X G a4 l4 c4 k4 fun _ _ _ _ _ _ us hl => match us, hl with | [_], _ => rfl
  have F5 : FunAt K mg "is_size" "is_size" s_is_size ["thing"] := funAt_mk X G a5 l5 c5 k5 fun _ _ _ _ _ _ us hl => match us, hl with | [_], _ => rfl
  have F6 : FunAt K mg "is_line" "is_line" s_is_line ["rules", "thing"] := funAt_mk X G a6 l6 c6 k6 fun _ _ _ _ _ _ us hl => match us, hl with | [_, _], _ => rfl
  have F7 : FunAt K mg "_law_bag" "_law_bag" s_law_bag ["script", "k"] := funAt_mk X G a7 l7 c7 k7 fun _ _ _ _ _ _ us hl => match us, hl with | [_, _], _ => rfl
  have F8 : FunAt K mg "_law_take" "_law_take" s_law_take ["bag", "many"] := funAt_mk X G a8 l8 c8 k8 fun _ _ _ _ _ _ us hl => match us, hl with | [_, _], _ => rfl
  have F9 : FunAt K mg "_law_of" "_law_of" s_law_of ["bag", "some"] := funAt_mk X G a9 l9 c9 k9 fun _ _ _ _ _ _ us hl => match us, hl with | [_, _], _ => rfl
  have F10 : FunAt K mg "_law_within" "_law_within" s_law_within ["thing", "least", "most"] := funAt_mk X G a10 l10 c10 k10 fun _ _ _ _ _ _ us hl => match us, hl with | [_, _, _], _ => rfl
  have F11 : FunAt K mg "_law_odd" "_law_odd" s_law_odd ["bag"] := funAt_mk X G a11 l11 c11 k11 fun _ _ _ _ _ _ us hl => match us, hl with | [_], _ => rfl
  have F12 : FunAt K mg "_law_spoilt" "_law_spoilt" s_law_spoilt ["bag", "thing"] := funAt_mk X G a12 l12 c12 k12 fun _ _ _ _ _ _ us hl => match us, hl with | [_, _], _ => rfl
  have F13 : FunAt K mg "_law_lowest" "_law_lowest" s_law_lowest ["top", "bottom"] := funAt_mk X G a13 l13 c13 k13 fun _ _ _ _ _ _ us hl => match us, hl with | [_, _], _ => rfl
  have F14 : FunAt K mg "_law_rules" "_law_rules" s_law_rules ["bag"] := funAt_mk X G a14 l14 c14 k14 fun _ _ _ _ _ _ us hl => match us, hl with | [_], _ => rfl
  have F15 : FunAt K mg "_law_size" "_law_size" s_law_size ["bag"] := funAt_mk X G a15 l15 c15 k15 fun _ _ _ _ _ _ us hl => match us, hl with | [_], _ => rfl
  have F16 : FunAt K mg "_law_line" "_law_line" s_law_line ["bag", "rules", "most"] := funAt_mk X G a16 l16 c16 k16 fun _ _ _ _ _ _ us hl => match us, hl with | [_, _, _], _ => rfl
  have F17 : FunAt K mg "_law_is_part" "_law_is_part" s_law_is_part ["thing", "most", "least"] := funAt_mk X G a17 l17 c17 k17 fun _ _ _ _ _ _ us hl => match us, hl with | [_, _, _], _ => rfl
  have F18 : FunAt K mg "_law_are_rules" "_law_are_rules" s_law_are_rules ["thing"] := funAt_mk X G a18 l18 c18 k18 fun _ _ _ _ _ _ us hl => match us, hl with | [_], _ => rfl
  have F19 : FunAt K mg "_law_is_size" "_law_is_size" s_law_is_size ["thing"] := funAt_mk X G a19 l19 c19 k19 fun _ _ _ _ _ _ us hl => match us, hl with | [_], _ => rfl
  have F20 : FunAt K mg "_law_is_line" "_law_is_line" s_law_is_line ["rules", "thing"] := funAt_mk X G a20 l20 c20 k20 fun _ _ _ _ _ _ us hl => match us, hl with | [_, _], _ => rfl
  refine ⟨PySem.W.fnOf "law" "law" (defArgs s_law) (defBody s_law) (defScope s_law) .none kV21 dc21 pm21 an21 cd21 ct21, fun s v => .of_eq rfl, fun base _ _ => ?_⟩
  have D0 := ok_is_whole (P := l.prog) (w := w) (base := base) F0 T 
  have D1 := ok_is_within (P := l.prog) (w := w) (base := base) F1 T D0
  have D2 := ok_lowest (P := l.prog) (w := w) (base := base) F2 T 
  have D3 := ok_is_part (P := l.prog) (w := w) (base := base) F3 T D1 D2
  have D4 := ok_are_rules (P := l.prog) (w := w) (base := base) F4 T D3 D1
  have D5 := ok_is_size (P := l.prog) (w := w) (base := base) F5 T D3
  have D6 := ok_is_line (P := l.prog) (w := w) (base := base) F6 T D1
  have D7 := ok_law_bag (P := l.prog) (w := w) (base := base) F7 T 
  have D8 := ok_law_take (P := l.prog) (w := w) (base := base) F8 T 
  have D9 := ok_law_of (P := l.prog) (w := w) (base := base) F9 T D8
  have D10 := ok_law_within (P := l.prog) (w := w) (base := base) F10 T 
  have D11 := ok_law_odd (P := l.prog) (w := w) (base := base) F11 T D8
  have D12 := ok_law_spoilt (P := l.prog) (w := w) (base := base) F12 T D8 D11
  have D13 := ok_law_lowest (P := l.prog) (w := w) (base := base) F13 T 
  have D14 := ok_law_rules (P := l.prog) (w := w) (base := base) F14 T D8 D13
  have D15 := ok_law_size (P := l.prog) (w := w) (base := base) F15 T D8 D13
  have D16 := ok_law_line (P := l.prog) (w := w) (base := base) F16 T D8
  have D17 := ok_law_is_part (P := l.prog) (w := w) (base := base) F17 T D10 D13
  have D18 := ok_law_are_rules (P := l.prog) (w := w) (base := base) F18 T D17 D10
  have D19 := ok_law_is_size (P := l.prog) (w := w) (base := base) F19 T D17
  have D20 := ok_law_is_line (P := l.prog) (w := w) (base := base) F20 T D10
  have FL : FunAt K mg "law" "law" s_law ["script"] := funAt_mk X G a21 l21 c21 k21 fun _ _ _ _ _ _ us hl => match us, hl with | [_], _ => rfl
  exact ok_law_fn (fun_mk (st := s_law) l21 c21 k21) T D7 D14 D9 D11 D6 D5 D4 D20 D19 D18 D16 D15 D12
theorem walk {l : PySem.W.OpenLaw} {q : Program} {loose : List Str} {XP : (Str → Option Value) → Heap → Prop} {YP : World → Heap → Prop} {d : DefRec} {K : Params → PySem.W.Frag} (hn : l.most = some 63) (hdf : d.params.defaults = [])
    (hY : ∀ (w : World) (h : Heap), YP w h → (K w.params).In h)
    (F : ∀ (w : World) (mg : Str → Option Value) (fa : Addr) (h : Heap), (K w.params).In h → h.Ns mainGlobals mg → mg d.name = some (.ref fa) →
      ∃ fd : FuncData, (∀ (s : Shared) (u : Value), BindsTo s fd ⟨[u], []⟩ [("script", u)]) ∧ ∀ base : Heap, (K w.params).In base → base.Ns mainGlobals mg → FnOk l.prog w (K w.params) mg base CX0 28 fa fd ["script"] (cSp (K w.params) spLaw)) :
    PySem.W.WalkO q loose XP YP l.row.toRowW d [] (fun f vs => PySem.call f vs) :=
  L2.walk_of (n := 63) (k := 28) (x := "script") (CX := fun _ => CX0) (sp := fun w => cSp (K w.params) spLaw) hn (by decide) hdf ⟨rfl, by decide, by decide⟩ hY F (fun _ _ a ns hl hO hS => law_sp hl hO hS) fun _ _ _ _ _ z => z
end Law
open PySem PySem.W PyProof.Rows
set_option maxRecDepth 100000 in
set_option maxHeartbeats 0 in
theorem PySem.Challenge.cw_mouldkin_k01_rules_sizes_lines_told_holds : PySem.Challenge.rw_mouldkin_k01_rules_sizes_lines_told.Holds := by
  w_on; o_law; k_head; (case hw => w_witness2)
  k_fill
  refine Law.walk (l := PySem.Challenge.rw_mouldkin_k01_rules_sizes_lines_told) rfl rfl (fun w h Y => PySem.W.kIn_of Y) ?F
  case F =>
    intro w mg fa h KX G hmg
    refine' Law.all_mk KX G hmg ?a0 ?l0 ?c0 ?k0 ?a1 ?l1 ?c1 ?k1 ?a2 ?l2 ?c2 ?k2 ?a3 ?l3 ?c3 ?k3 ?a4 ?l4 ?c4 ?k4 ?a5 ?l5 ?c5 ?k5 ?a6 ?l6 ?c6 ?k6 ?a7 ?l7 ?c7 ?k7 ?a8 ?l8 ?c8 ?k8 ?a9 ?l9 ?c9 ?k9 ?a10 ?l10 ?c10 ?k10 ?a11 ?l11 ?c11 ?k11 ?a12 ?l12 ?c12 ?k12 ?a13 ?l13 ?c13 ?k13 ?a14 ?l14 ?c14 ?k14 ?a15 ?l15 ?c15 ?k15 ?a16 ?l16 ?c16 ?k16 ?a17 ?l17 ?c17 ?k17 ?a18 ?l18 ?c18 ?k18 ?a19 ?l19 ?c19 ?k19 ?a20 ?l20 ?c20 ?k20 ?a21 ?l21 ?c21 ?k21 ?z_bool ?z_int ?z_isinstance ?z_len ?z_tuple ?z_MOST_LIFE ?z_MOST_PART ?z_MOST_WEAR ?z_MOST_BOTTOM ?z_MOST_TOP ?z_MOST_LINE ?z_all ?z_abs ?z_list ?z_str ?z_range ?z_min
    (case a0 => k_is)
    (case l0 => k_is)
    (case c0 => k_is)
    (case k0 => k_is)
    (case a1 => k_is)
    (case l1 => k_is)
    (case c1 => k_is)
    (case k1 => k_is)
    (case a2 => k_is)
    (case l2 => k_is)
    (case c2 => k_is)
    (case k2 => k_is)
    (case a3 => k_is)
    (case l3 => k_is)
    (case c3 => k_is)
    (case k3 => k_is)
    (case a4 => k_is)
    (case l4 => k_is)
    (case c4 => k_is)
    (case k4 => k_is)
    (case a5 => k_is)
    (case l5 => k_is)
    (case c5 => k_is)
    (case k5 => k_is)
    (case a6 => k_is)
    (case l6 => k_is)
    (case c6 => k_is)
    (case k6 => k_is)
    (case a7 => k_is)
    (case l7 => k_is)
    (case c7 => k_is)
    (case k7 => k_is)
    (case a8 => k_is)
    (case l8 => k_is)
    (case c8 => k_is)
    (case k8 => k_is)
    (case a9 => k_is)
    (case l9 => k_is)
    (case c9 => k_is)
    (case k9 => k_is)
    (case a10 => k_is)
    (case l10 => k_is)
    (case c10 => k_is)
    (case k10 => k_is)
    (case a11 => k_is)
    (case l11 => k_is)
    (case c11 => k_is)
    (case k11 => k_is)
    (case a12 => k_is)
    (case l12 => k_is)
    (case c12 => k_is)
    (case k12 => k_is)
    (case a13 => k_is)
    (case l13 => k_is)
    (case c13 => k_is)
    (case k13 => k_is)
    (case a14 => k_is)
    (case l14 => k_is)
    (case c14 => k_is)
    (case k14 => k_is)
    (case a15 => k_is)
    (case l15 => k_is)
    (case c15 => k_is)
    (case k15 => k_is)
    (case a16 => k_is)
    (case l16 => k_is)
    (case c16 => k_is)
    (case k16 => k_is)
    (case a17 => k_is)
    (case l17 => k_is)
    (case c17 => k_is)
    (case k17 => k_is)
    (case a18 => k_is)
    (case l18 => k_is)
    (case c18 => k_is)
    (case k18 => k_is)
    (case a19 => k_is)
    (case l19 => k_is)
    (case c19 => k_is)
    (case k19 => k_is)
    (case a20 => k_is)
    (case l20 => k_is)
    (case c20 => k_is)
    (case k20 => k_is)
    (case a21 => k_is)
    (case l21 => k_is)
    (case c21 => k_is)
    (case k21 => k_is)
    (case z_bool => k_is)
    (case z_int => k_is)
    (case z_isinstance => k_is)
    (case z_len => k_is)
    (case z_tuple => k_is)
    (case z_MOST_LIFE => k_is)
    (case z_MOST_PART => k_is)
    (case z_MOST_WEAR => k_is)
    (case z_MOST_BOTTOM => k_is)
    (case z_MOST_TOP => k_is)
    (case z_MOST_LINE => k_is)
    (case z_all => k_is)
    (case z_abs => k_is)
    (case z_list => k_is)
    (case z_str => k_is)
    (case z_range => k_is)
    (case z_min => k_is)

#print axioms PySem.Challenge.cw_mouldkin_k01_rules_sizes_lines_told_holds
